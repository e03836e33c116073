/- Contracts. No conditions. -/
import Derived.Test.YtekcnnngjoonbaaGreatVmE
import Derived.Test.YtekcnnngjoonbaaGreatProg
set_option linter.all false
set_option maxHeartbeats 8000000
set_option maxRecDepth 10000
namespace Go.Proofs.YtekcnnngjoonbaaGreat.VM
open Go Go.RowKit Go.Proofs
theorem sz3 : Sz Tryz.prog 3 1 := Tryz.sizeOf3
instance : SzI Tryz.prog 3 1 := ⟨sz3⟩
theorem ag3 : Ag Tryz.prog 3 false := Tryz.isAgg3
instance : AgI Tryz.prog 3 false := ⟨ag3⟩
instance : TyI Tryz.prog 3 [.v (.int .i64 0)] := TyI.mk' (i := Tryz.t3) (by kernel_rfl) (by decide) (by decide) rfl (by decide) ⟨⟨rfl, rfl⟩, trivial⟩
instance : SzI Tryz.prog 188 4 := ⟨Tryz.sizeOf188⟩
instance : AgI Tryz.prog 188 true := ⟨Tryz.isAgg188⟩
instance : TyI Tryz.prog 188 [.v (.int .i64 0), .v (.int .i64 0), .v (.int .i64 0), .v (.int .i64 0)] := TyI.mk' (i := Tryz.t188) (by kernel_rfl) (by decide) (by decide) rfl (by decide) ⟨⟨rfl, rfl⟩, ⟨rfl, rfl⟩, ⟨rfl, rfl⟩, ⟨rfl, rfl⟩, trivial⟩
instance : FlI Tryz.prog 188 0 0 := ⟨Fld.mk' 0 _ Tryz.underlying188 rfl sz3⟩
instance : FlI Tryz.prog 188 1 1 := ⟨Fld.mk' 1 _ Tryz.underlying188 rfl sz3⟩
instance : FlI Tryz.prog 188 2 2 := ⟨Fld.mk' 2 _ Tryz.underlying188 rfl sz3⟩
instance : FlI Tryz.prog 188 3 3 := ⟨Fld.mk' 3 _ Tryz.underlying188 rfl sz3⟩
instance : SlI Tryz.prog 125 188 := ⟨Tryz.underlying125⟩
instance : SzI Tryz.prog 125 1 := ⟨Tryz.sizeOf125⟩
instance : AgI Tryz.prog 125 false := ⟨Tryz.isAgg125⟩
instance : SlI Tryz.prog 22 125 := ⟨Tryz.underlying22⟩
theorem sz22 : Sz Tryz.prog 22 1 := Tryz.sizeOf22
instance : AgI Tryz.prog 22 false := ⟨Tryz.isAgg22⟩
theorem sl24 : Sl Tryz.prog 24 3 := Tryz.underlying24
instance : SlI Tryz.prog 24 3 := ⟨Tryz.underlying24⟩
theorem sz24 : Sz Tryz.prog 24 1 := Tryz.sizeOf24
instance : SzI Tryz.prog 24 1 := ⟨sz24⟩
theorem ag24 : Ag Tryz.prog 24 false := Tryz.isAgg24
instance : AgI Tryz.prog 24 false := ⟨ag24⟩
instance : TyI Tryz.prog 24 [.s 1 0 fun _ _ => .j] := TyI.mk' (i := Tryz.t24) (by kernel_rfl) (by decide) (by decide) rfl (by decide) ⟨⟨by decide, rfl, rfl⟩, trivial⟩
theorem sz127 : Sz Tryz.prog 127 2 := Tryz.sizeOf127
instance : SzI Tryz.prog 127 2 := ⟨sz127⟩
instance : AgI Tryz.prog 127 true := ⟨Tryz.isAgg127⟩
instance : TyI Tryz.prog 127 [.v (.int .i64 0), .s 1 0 fun _ _ => .j] := TyI.mk' (i := Tryz.t127) (by kernel_rfl) (by decide) (by decide) rfl (by decide) ⟨⟨rfl, rfl⟩, ⟨by decide, rfl, rfl⟩, trivial⟩
instance : FlI Tryz.prog 127 0 0 := ⟨Fld.mk' 0 _ Tryz.underlying127 rfl sz3⟩
instance : FlI Tryz.prog 127 1 1 := ⟨Fld.mk' 1 _ Tryz.underlying127 rfl sz24⟩
instance : SzI Tryz.prog 129 10 := ⟨Tryz.sizeOf129⟩
instance : AgI Tryz.prog 129 true := ⟨Tryz.isAgg129⟩
instance : TyI Tryz.prog 129 [.v (.int .i64 0), .v (.int .i64 0), .v (.int .i64 0), .v (.int .i64 0), .v (.int .i64 0), .s 1 0 fun _ _ => .j, .s 1 0 fun _ _ => .j, .s 1 0 fun _ _ => .j, .v (.int .i64 0), .v (.int .i64 0)] := TyI.mk' (i := Tryz.t129) (by kernel_rfl) (by decide) (by decide) rfl (by decide) ⟨⟨rfl, rfl⟩, ⟨rfl, rfl⟩, ⟨rfl, rfl⟩, ⟨rfl, rfl⟩, ⟨rfl, rfl⟩, ⟨by decide, rfl, rfl⟩, ⟨by decide, rfl, rfl⟩, ⟨by decide, rfl, rfl⟩, ⟨rfl, rfl⟩, ⟨rfl, rfl⟩, trivial⟩
instance : FlI Tryz.prog 129 0 0 := ⟨Fld.mk' 0 _ Tryz.underlying129 rfl sz3⟩
instance : FlI Tryz.prog 129 1 1 := ⟨Fld.mk' 1 _ Tryz.underlying129 rfl sz3⟩
instance : FlI Tryz.prog 129 2 2 := ⟨Fld.mk' 2 _ Tryz.underlying129 rfl sz3⟩
instance : FlI Tryz.prog 129 3 3 := ⟨Fld.mk' 3 _ Tryz.underlying129 rfl sz3⟩
instance : FlI Tryz.prog 129 4 4 := ⟨Fld.mk' 4 _ Tryz.underlying129 rfl sz127⟩
instance : FlI Tryz.prog 129 5 6 := ⟨Fld.mk' 5 _ Tryz.underlying129 rfl sz24⟩
instance : FlI Tryz.prog 129 6 7 := ⟨Fld.mk' 6 _ Tryz.underlying129 rfl sz24⟩
instance : FlI Tryz.prog 129 7 8 := ⟨Fld.mk' 7 _ Tryz.underlying129 rfl sz3⟩
instance : FlI Tryz.prog 129 8 9 := ⟨Fld.mk' 8 _ Tryz.underlying129 rfl sz3⟩
instance : SlI Tryz.prog 23 129 := ⟨Tryz.underlying23⟩
theorem sz23 : Sz Tryz.prog 23 1 := Tryz.sizeOf23
instance : AgI Tryz.prog 23 false := ⟨Tryz.isAgg23⟩
theorem sl25 : Sl Tryz.prog 25 24 := Tryz.underlying25
instance : SlI Tryz.prog 25 24 := ⟨Tryz.underlying25⟩
theorem sz25 : Sz Tryz.prog 25 1 := Tryz.sizeOf25
theorem ag25 : Ag Tryz.prog 25 false := Tryz.isAgg25
instance : AgI Tryz.prog 25 false := ⟨ag25⟩
instance : TyI Tryz.prog 25 [.s 1 0 fun _ _ => .j] := TyI.mk' (i := Tryz.t25) (by kernel_rfl) (by decide) (by decide) rfl (by decide) ⟨⟨by decide, rfl, rfl⟩, trivial⟩
theorem sz27 : Sz Tryz.prog 27 1 := Tryz.sizeOf27
instance : SzI Tryz.prog 27 1 := ⟨sz27⟩
instance : AgI Tryz.prog 27 true := ⟨Tryz.isAgg27⟩
instance : TyI Tryz.prog 27 [.s 1 0 fun _ _ => .j] := TyI.mk' (i := Tryz.t27) (by kernel_rfl) (by decide) (by decide) rfl (by decide) ⟨⟨by decide, rfl, rfl⟩, trivial⟩
instance : FlI Tryz.prog 27 0 0 := ⟨Fld.mk' 0 _ Tryz.underlying27 rfl sz25⟩
instance : SzI Tryz.prog 146 5 := ⟨Tryz.sizeOf146⟩
instance : AgI Tryz.prog 146 true := ⟨Tryz.isAgg146⟩
instance : TyI Tryz.prog 146 [.v (.int .i64 0), .v (.int .i64 0), .v (.int .i64 0), .v (.int .i64 0), .v (.int .i64 0)] := TyI.mk' (i := Tryz.t146) (by kernel_rfl) (by decide) (by decide) rfl (by decide) ⟨⟨rfl, rfl⟩, ⟨rfl, rfl⟩, ⟨rfl, rfl⟩, ⟨rfl, rfl⟩, ⟨rfl, rfl⟩, trivial⟩
instance : FlI Tryz.prog 146 0 0 := ⟨Fld.mk' 0 _ Tryz.underlying146 rfl sz3⟩
instance : FlI Tryz.prog 146 1 1 := ⟨Fld.mk' 1 _ Tryz.underlying146 rfl sz3⟩
instance : FlI Tryz.prog 146 2 2 := ⟨Fld.mk' 2 _ Tryz.underlying146 rfl sz3⟩
instance : FlI Tryz.prog 146 3 3 := ⟨Fld.mk' 3 _ Tryz.underlying146 rfl sz3⟩
instance : FlI Tryz.prog 146 4 4 := ⟨Fld.mk' 4 _ Tryz.underlying146 rfl sz3⟩
instance : SlI Tryz.prog 28 146 := ⟨Tryz.underlying28⟩
theorem sz28 : Sz Tryz.prog 28 1 := Tryz.sizeOf28
instance : AgI Tryz.prog 28 false := ⟨Tryz.isAgg28⟩
instance : SzI Tryz.prog 132 2 := ⟨Tryz.sizeOf132⟩
instance : AgI Tryz.prog 132 true := ⟨Tryz.isAgg132⟩
instance : TyI Tryz.prog 132 [.v (.int .i64 0), .s 1 0 fun _ _ => .j] := TyI.mk' (i := Tryz.t132) (by kernel_rfl) (by decide) (by decide) rfl (by decide) ⟨⟨rfl, rfl⟩, ⟨by decide, rfl, rfl⟩, trivial⟩
instance : FlI Tryz.prog 132 0 0 := ⟨Fld.mk' 0 _ Tryz.underlying132 rfl sz3⟩
instance : FlI Tryz.prog 132 1 1 := ⟨Fld.mk' 1 _ Tryz.underlying132 rfl sz25⟩
instance : SlI Tryz.prog 29 132 := ⟨Tryz.underlying29⟩
theorem sz29 : Sz Tryz.prog 29 1 := Tryz.sizeOf29
instance : AgI Tryz.prog 29 false := ⟨Tryz.isAgg29⟩
instance : SzI Tryz.prog 134 2 := ⟨Tryz.sizeOf134⟩
instance : AgI Tryz.prog 134 true := ⟨Tryz.isAgg134⟩
instance : TyI Tryz.prog 134 [.v (.int .i64 0), .s 1 0 fun _ _ => .j] := TyI.mk' (i := Tryz.t134) (by kernel_rfl) (by decide) (by decide) rfl (by decide) ⟨⟨rfl, rfl⟩, ⟨by decide, rfl, rfl⟩, trivial⟩
instance : FlI Tryz.prog 134 0 0 := ⟨Fld.mk' 0 _ Tryz.underlying134 rfl sz3⟩
instance : FlI Tryz.prog 134 1 1 := ⟨Fld.mk' 1 _ Tryz.underlying134 rfl sz24⟩
instance : SlI Tryz.prog 30 134 := ⟨Tryz.underlying30⟩
theorem sz30 : Sz Tryz.prog 30 1 := Tryz.sizeOf30
instance : AgI Tryz.prog 30 false := ⟨Tryz.isAgg30⟩
theorem sz32 : Sz Tryz.prog 32 11 := Tryz.sizeOf32
theorem ag32 : Ag Tryz.prog 32 true := Tryz.isAgg32
instance : TyI Tryz.prog 32 [.v (.int .i64 0), .v (.int .i64 0), .s 1 0 fun _ _ => .j, .s 10 0 fun _ _ => .j, .s 1 0 fun _ _ => .j, .s 1 0 fun _ _ => .j, .s 5 0 fun _ _ => .j, .s 2 0 fun _ _ => .j, .s 2 0 fun _ _ => .j, .s 1 0 fun _ _ => .j, .s 1 0 fun _ _ => .j] := TyI.mk' (i := Tryz.t32) (by kernel_rfl) (by decide) (by decide) rfl (by decide) ⟨⟨rfl, rfl⟩, ⟨rfl, rfl⟩, ⟨by decide, rfl, rfl⟩, ⟨by decide, rfl, rfl⟩, ⟨by decide, rfl, rfl⟩, ⟨by decide, rfl, rfl⟩, ⟨by decide, rfl, rfl⟩, ⟨by decide, rfl, rfl⟩, ⟨by decide, rfl, rfl⟩, ⟨by decide, rfl, rfl⟩, ⟨by decide, rfl, rfl⟩, trivial⟩
instance : FlI Tryz.prog 32 0 0 := ⟨Fld.mk' 0 _ Tryz.underlying32 rfl sz3⟩
instance : FlI Tryz.prog 32 1 1 := ⟨Fld.mk' 1 _ Tryz.underlying32 rfl sz3⟩
instance : FlI Tryz.prog 32 2 2 := ⟨Fld.mk' 2 _ Tryz.underlying32 rfl sz22⟩
instance : FlI Tryz.prog 32 3 3 := ⟨Fld.mk' 3 _ Tryz.underlying32 rfl sz23⟩
instance : FlI Tryz.prog 32 4 4 := ⟨Fld.mk' 4 _ Tryz.underlying32 rfl sz24⟩
instance : FlI Tryz.prog 32 5 5 := ⟨Fld.mk' 5 _ Tryz.underlying32 rfl sz27⟩
instance : FlI Tryz.prog 32 6 6 := ⟨Fld.mk' 6 _ Tryz.underlying32 rfl sz28⟩
instance : FlI Tryz.prog 32 7 7 := ⟨Fld.mk' 7 _ Tryz.underlying32 rfl sz29⟩
instance : FlI Tryz.prog 32 8 8 := ⟨Fld.mk' 8 _ Tryz.underlying32 rfl sz30⟩
instance : FlI Tryz.prog 32 9 9 := ⟨Fld.mk' 9 _ Tryz.underlying32 rfl sz24⟩
instance : FlI Tryz.prog 32 10 10 := ⟨Fld.mk' 10 _ Tryz.underlying32 rfl sz24⟩
theorem sz156 : Sz Tryz.prog 156 4 := Tryz.sizeOf156
instance : SzI Tryz.prog 156 4 := ⟨sz156⟩
theorem ag156 : Ag Tryz.prog 156 true := Tryz.isAgg156
instance : AgI Tryz.prog 156 true := ⟨ag156⟩
instance : TyI Tryz.prog 156 [.v (.int .i64 0), .v (.int .i64 0), .v (.int .i64 0), .v (.int .i64 0)] := TyI.mk' (i := Tryz.t156) (by kernel_rfl) (by decide) (by decide) rfl (by decide) ⟨⟨rfl, rfl⟩, ⟨rfl, rfl⟩, ⟨rfl, rfl⟩, ⟨rfl, rfl⟩, trivial⟩
instance : FlI Tryz.prog 156 0 0 := ⟨Fld.mk' 0 _ Tryz.underlying156 rfl sz3⟩
instance : FlI Tryz.prog 156 1 1 := ⟨Fld.mk' 1 _ Tryz.underlying156 rfl sz3⟩
instance : FlI Tryz.prog 156 2 2 := ⟨Fld.mk' 2 _ Tryz.underlying156 rfl sz3⟩
instance : FlI Tryz.prog 156 3 3 := ⟨Fld.mk' 3 _ Tryz.underlying156 rfl sz3⟩
theorem sl141 : Sl Tryz.prog 141 156 := Tryz.underlying141
instance : SlI Tryz.prog 141 156 := ⟨Tryz.underlying141⟩
theorem sz141 : Sz Tryz.prog 141 1 := Tryz.sizeOf141
instance : SzI Tryz.prog 141 1 := ⟨sz141⟩
theorem ag141 : Ag Tryz.prog 141 false := Tryz.isAgg141
instance : AgI Tryz.prog 141 false := ⟨ag141⟩
instance : TyI Tryz.prog 141 [.s 4 0 fun _ _ => .j] := TyI.mk' (i := Tryz.t141) (by kernel_rfl) (by decide) (by decide) rfl (by decide) ⟨⟨by decide, rfl, rfl⟩, trivial⟩
theorem sl34 : Sl Tryz.prog 34 141 := Tryz.underlying34
instance : SlI Tryz.prog 34 141 := ⟨Tryz.underlying34⟩
theorem sz34 : Sz Tryz.prog 34 1 := Tryz.sizeOf34
theorem ag34 : Ag Tryz.prog 34 false := Tryz.isAgg34
instance : AgI Tryz.prog 34 false := ⟨ag34⟩
instance : TyI Tryz.prog 34 [.s 1 0 fun _ _ => .j] := TyI.mk' (i := Tryz.t34) (by kernel_rfl) (by decide) (by decide) rfl (by decide) ⟨⟨by decide, rfl, rfl⟩, trivial⟩
theorem sz75 : Sz Tryz.prog 75 2 := Tryz.sizeOf75
instance : SzI Tryz.prog 75 2 := ⟨sz75⟩
theorem ag75 : Ag Tryz.prog 75 true := Tryz.isAgg75
instance : AgI Tryz.prog 75 true := ⟨ag75⟩
instance : TyI Tryz.prog 75 [.v (.int .i64 0), .s 1 0 fun _ _ => .j] := TyI.mk' (i := Tryz.t75) (by kernel_rfl) (by decide) (by decide) rfl (by decide) ⟨⟨rfl, rfl⟩, ⟨by decide, rfl, rfl⟩, trivial⟩
theorem fl75_0 : Fld Tryz.prog 75 0 0 := Fld.mk' 0 _ Tryz.underlying75 rfl sz3
instance : FlI Tryz.prog 75 0 0 := ⟨fl75_0⟩
theorem fl75_1 : Fld Tryz.prog 75 1 1 := Fld.mk' 1 _ Tryz.underlying75 rfl sz24
instance : FlI Tryz.prog 75 1 1 := ⟨fl75_1⟩
instance : BdI Tryz.prog 75 [(0, 1), (1, 1)] := ⟨⟨_, Tryz.underlying75, fun w => by simp [Tryz.sizeOf24, Tryz.sizeOf3]⟩⟩
theorem sz81 : Sz Tryz.prog 81 10 := Tryz.sizeOf81
instance : SzI Tryz.prog 81 10 := ⟨sz81⟩
theorem ag81 : Ag Tryz.prog 81 true := Tryz.isAgg81
instance : AgI Tryz.prog 81 true := ⟨ag81⟩
instance : TyI Tryz.prog 81 [.v (.int .i64 0), .v (.int .i64 0), .v (.int .i64 0), .v (.int .i64 0), .v (.int .i64 0), .s 1 0 fun _ _ => .j, .s 1 0 fun _ _ => .j, .s 1 0 fun _ _ => .j, .v (.int .i64 0), .v (.int .i64 0)] := TyI.mk' (i := Tryz.t81) (by kernel_rfl) (by decide) (by decide) rfl (by decide) ⟨⟨rfl, rfl⟩, ⟨rfl, rfl⟩, ⟨rfl, rfl⟩, ⟨rfl, rfl⟩, ⟨rfl, rfl⟩, ⟨by decide, rfl, rfl⟩, ⟨by decide, rfl, rfl⟩, ⟨by decide, rfl, rfl⟩, ⟨rfl, rfl⟩, ⟨rfl, rfl⟩, trivial⟩
theorem fl81_0 : Fld Tryz.prog 81 0 0 := Fld.mk' 0 _ Tryz.underlying81 rfl sz3
instance : FlI Tryz.prog 81 0 0 := ⟨fl81_0⟩
instance : FlI Tryz.prog 81 1 1 := ⟨Fld.mk' 1 _ Tryz.underlying81 rfl sz3⟩
instance : FlI Tryz.prog 81 2 2 := ⟨Fld.mk' 2 _ Tryz.underlying81 rfl sz3⟩
instance : FlI Tryz.prog 81 3 3 := ⟨Fld.mk' 3 _ Tryz.underlying81 rfl sz3⟩
instance : FlI Tryz.prog 81 4 4 := ⟨Fld.mk' 4 _ Tryz.underlying81 rfl sz75⟩
theorem fl81_5 : Fld Tryz.prog 81 5 6 := Fld.mk' 5 _ Tryz.underlying81 rfl sz24
instance : FlI Tryz.prog 81 5 6 := ⟨fl81_5⟩
instance : FlI Tryz.prog 81 6 7 := ⟨Fld.mk' 6 _ Tryz.underlying81 rfl sz24⟩
instance : FlI Tryz.prog 81 7 8 := ⟨Fld.mk' 7 _ Tryz.underlying81 rfl sz3⟩
instance : FlI Tryz.prog 81 8 9 := ⟨Fld.mk' 8 _ Tryz.underlying81 rfl sz3⟩
instance : BdI Tryz.prog 81 [(0, 1), (1, 1), (2, 1), (3, 1), (4, 2), (6, 1), (7, 1), (8, 1), (9, 1)] := ⟨⟨_, Tryz.underlying81, fun w => by simp [Tryz.sizeOf24, Tryz.sizeOf3, Tryz.sizeOf75]⟩⟩
theorem sl35 : Sl Tryz.prog 35 81 := Tryz.underlying35
instance : SlI Tryz.prog 35 81 := ⟨Tryz.underlying35⟩
theorem sz35 : Sz Tryz.prog 35 1 := Tryz.sizeOf35
theorem ag35 : Ag Tryz.prog 35 false := Tryz.isAgg35
instance : AgI Tryz.prog 35 false := ⟨ag35⟩
instance : TyI Tryz.prog 35 [.s 10 0 fun _ _ => .j] := TyI.mk' (i := Tryz.t35) (by kernel_rfl) (by decide) (by decide) rfl (by decide) ⟨⟨by decide, rfl, rfl⟩, trivial⟩
theorem sz72 : Sz Tryz.prog 72 5 := Tryz.sizeOf72
instance : SzI Tryz.prog 72 5 := ⟨sz72⟩
theorem ag72 : Ag Tryz.prog 72 true := Tryz.isAgg72
instance : AgI Tryz.prog 72 true := ⟨ag72⟩
instance : TyI Tryz.prog 72 [.v (.int .i64 0), .v (.int .i64 0), .v (.int .i64 0), .v (.int .i64 0), .v (.int .i64 0)] := TyI.mk' (i := Tryz.t72) (by kernel_rfl) (by decide) (by decide) rfl (by decide) ⟨⟨rfl, rfl⟩, ⟨rfl, rfl⟩, ⟨rfl, rfl⟩, ⟨rfl, rfl⟩, ⟨rfl, rfl⟩, trivial⟩
theorem fl72_0 : Fld Tryz.prog 72 0 0 := Fld.mk' 0 _ Tryz.underlying72 rfl sz3
instance : FlI Tryz.prog 72 0 0 := ⟨fl72_0⟩
instance : FlI Tryz.prog 72 1 1 := ⟨Fld.mk' 1 _ Tryz.underlying72 rfl sz3⟩
instance : FlI Tryz.prog 72 2 2 := ⟨Fld.mk' 2 _ Tryz.underlying72 rfl sz3⟩
instance : FlI Tryz.prog 72 3 3 := ⟨Fld.mk' 3 _ Tryz.underlying72 rfl sz3⟩
instance : FlI Tryz.prog 72 4 4 := ⟨Fld.mk' 4 _ Tryz.underlying72 rfl sz3⟩
theorem sl36 : Sl Tryz.prog 36 72 := Tryz.underlying36
instance : SlI Tryz.prog 36 72 := ⟨Tryz.underlying36⟩
theorem sz36 : Sz Tryz.prog 36 1 := Tryz.sizeOf36
theorem ag36 : Ag Tryz.prog 36 false := Tryz.isAgg36
instance : AgI Tryz.prog 36 false := ⟨ag36⟩
instance : TyI Tryz.prog 36 [.s 5 0 fun _ _ => .j] := TyI.mk' (i := Tryz.t36) (by kernel_rfl) (by decide) (by decide) rfl (by decide) ⟨⟨by decide, rfl, rfl⟩, trivial⟩
theorem sz86 : Sz Tryz.prog 86 2 := Tryz.sizeOf86
instance : SzI Tryz.prog 86 2 := ⟨sz86⟩
theorem ag86 : Ag Tryz.prog 86 true := Tryz.isAgg86
instance : AgI Tryz.prog 86 true := ⟨ag86⟩
instance : TyI Tryz.prog 86 [.v (.int .i64 0), .s 1 0 fun _ _ => .j] := TyI.mk' (i := Tryz.t86) (by kernel_rfl) (by decide) (by decide) rfl (by decide) ⟨⟨rfl, rfl⟩, ⟨by decide, rfl, rfl⟩, trivial⟩
theorem fl86_0 : Fld Tryz.prog 86 0 0 := Fld.mk' 0 _ Tryz.underlying86 rfl sz3
instance : FlI Tryz.prog 86 0 0 := ⟨fl86_0⟩
instance : FlI Tryz.prog 86 1 1 := ⟨Fld.mk' 1 _ Tryz.underlying86 rfl sz24⟩
instance : BdI Tryz.prog 86 [(0, 1), (1, 1)] := ⟨⟨_, Tryz.underlying86, fun w => by simp [Tryz.sizeOf24, Tryz.sizeOf3]⟩⟩
theorem sl37 : Sl Tryz.prog 37 86 := Tryz.underlying37
instance : SlI Tryz.prog 37 86 := ⟨Tryz.underlying37⟩
theorem sz37 : Sz Tryz.prog 37 1 := Tryz.sizeOf37
theorem ag37 : Ag Tryz.prog 37 false := Tryz.isAgg37
instance : AgI Tryz.prog 37 false := ⟨ag37⟩
instance : TyI Tryz.prog 37 [.s 2 0 fun _ _ => .j] := TyI.mk' (i := Tryz.t37) (by kernel_rfl) (by decide) (by decide) rfl (by decide) ⟨⟨by decide, rfl, rfl⟩, trivial⟩
theorem sz96 : Sz Tryz.prog 96 2 := Tryz.sizeOf96
instance : SzI Tryz.prog 96 2 := ⟨sz96⟩
theorem ag96 : Ag Tryz.prog 96 true := Tryz.isAgg96
instance : AgI Tryz.prog 96 true := ⟨ag96⟩
instance : TyI Tryz.prog 96 [.v (.int .i64 0), .s 1 0 fun _ _ => .j] := TyI.mk' (i := Tryz.t96) (by kernel_rfl) (by decide) (by decide) rfl (by decide) ⟨⟨rfl, rfl⟩, ⟨by decide, rfl, rfl⟩, trivial⟩
theorem fl96_0 : Fld Tryz.prog 96 0 0 := Fld.mk' 0 _ Tryz.underlying96 rfl sz3
instance : FlI Tryz.prog 96 0 0 := ⟨fl96_0⟩
theorem fl96_1 : Fld Tryz.prog 96 1 1 := Fld.mk' 1 _ Tryz.underlying96 rfl sz24
instance : FlI Tryz.prog 96 1 1 := ⟨fl96_1⟩
instance : BdI Tryz.prog 96 [(0, 1), (1, 1)] := ⟨⟨_, Tryz.underlying96, fun w => by simp [Tryz.sizeOf24, Tryz.sizeOf3]⟩⟩
theorem sl38 : Sl Tryz.prog 38 96 := Tryz.underlying38
instance : SlI Tryz.prog 38 96 := ⟨Tryz.underlying38⟩
theorem sz38 : Sz Tryz.prog 38 1 := Tryz.sizeOf38
theorem ag38 : Ag Tryz.prog 38 false := Tryz.isAgg38
instance : AgI Tryz.prog 38 false := ⟨ag38⟩
instance : TyI Tryz.prog 38 [.s 2 0 fun _ _ => .j] := TyI.mk' (i := Tryz.t38) (by kernel_rfl) (by decide) (by decide) rfl (by decide) ⟨⟨by decide, rfl, rfl⟩, trivial⟩
theorem sz40 : Sz Tryz.prog 40 9 := Tryz.sizeOf40
theorem ag40 : Ag Tryz.prog 40 true := Tryz.isAgg40
instance : TyI Tryz.prog 40 [.v (.int .i64 0), .v (.int .i64 0), .s 1 0 fun _ _ => .j, .s 10 0 fun _ _ => .j, .s 5 0 fun _ _ => .j, .s 2 0 fun _ _ => .j, .s 2 0 fun _ _ => .j, .s 1 0 fun _ _ => .j, .s 1 0 fun _ _ => .j] := TyI.mk' (i := Tryz.t40) (by kernel_rfl) (by decide) (by decide) rfl (by decide) ⟨⟨rfl, rfl⟩, ⟨rfl, rfl⟩, ⟨by decide, rfl, rfl⟩, ⟨by decide, rfl, rfl⟩, ⟨by decide, rfl, rfl⟩, ⟨by decide, rfl, rfl⟩, ⟨by decide, rfl, rfl⟩, ⟨by decide, rfl, rfl⟩, ⟨by decide, rfl, rfl⟩, trivial⟩
instance : FlI Tryz.prog 40 0 0 := ⟨Fld.mk' 0 _ Tryz.underlying40 rfl sz3⟩
instance : FlI Tryz.prog 40 1 1 := ⟨Fld.mk' 1 _ Tryz.underlying40 rfl sz3⟩
instance : FlI Tryz.prog 40 2 2 := ⟨Fld.mk' 2 _ Tryz.underlying40 rfl sz34⟩
theorem fl40_3 : Fld Tryz.prog 40 3 3 := Fld.mk' 3 _ Tryz.underlying40 rfl sz35
instance : FlI Tryz.prog 40 3 3 := ⟨fl40_3⟩
theorem fl40_4 : Fld Tryz.prog 40 4 4 := Fld.mk' 4 _ Tryz.underlying40 rfl sz36
instance : FlI Tryz.prog 40 4 4 := ⟨fl40_4⟩
theorem fl40_5 : Fld Tryz.prog 40 5 5 := Fld.mk' 5 _ Tryz.underlying40 rfl sz37
instance : FlI Tryz.prog 40 5 5 := ⟨fl40_5⟩
theorem fl40_6 : Fld Tryz.prog 40 6 6 := Fld.mk' 6 _ Tryz.underlying40 rfl sz38
instance : FlI Tryz.prog 40 6 6 := ⟨fl40_6⟩
instance : FlI Tryz.prog 40 7 7 := ⟨Fld.mk' 7 _ Tryz.underlying40 rfl sz24⟩
instance : FlI Tryz.prog 40 8 8 := ⟨Fld.mk' 8 _ Tryz.underlying40 rfl sz24⟩
instance : BdI Tryz.prog 40 [(0, 1), (1, 1), (2, 1), (3, 1), (4, 1), (5, 1), (6, 1), (7, 1), (8, 1)] := ⟨⟨_, Tryz.underlying40, fun w => by simp [Tryz.sizeOf24, Tryz.sizeOf3, Tryz.sizeOf34, Tryz.sizeOf35, Tryz.sizeOf36, Tryz.sizeOf37, Tryz.sizeOf38]⟩⟩
theorem sz77 : Sz Tryz.prog 77 10 := Tryz.sizeOf77
instance : SzI Tryz.prog 77 10 := ⟨sz77⟩
theorem ag77 : Ag Tryz.prog 77 true := Tryz.isAgg77
instance : AgI Tryz.prog 77 true := ⟨ag77⟩
instance : TyI Tryz.prog 77 [.v (.int .i64 0), .v (.int .i64 0), .v (.int .i64 0), .v (.int .i64 0), .v (.int .i64 0), .s 1 0 fun _ _ => .j, .s 1 0 fun _ _ => .j, .s 1 0 fun _ _ => .j, .v (.int .i64 0), .v (.int .i64 0)] := TyI.mk' (i := Tryz.t77) (by kernel_rfl) (by decide) (by decide) rfl (by decide) ⟨⟨rfl, rfl⟩, ⟨rfl, rfl⟩, ⟨rfl, rfl⟩, ⟨rfl, rfl⟩, ⟨rfl, rfl⟩, ⟨by decide, rfl, rfl⟩, ⟨by decide, rfl, rfl⟩, ⟨by decide, rfl, rfl⟩, ⟨rfl, rfl⟩, ⟨rfl, rfl⟩, trivial⟩
theorem fl77_0 : Fld Tryz.prog 77 0 0 := Fld.mk' 0 _ Tryz.underlying77 rfl sz3
instance : FlI Tryz.prog 77 0 0 := ⟨fl77_0⟩
theorem fl77_1 : Fld Tryz.prog 77 1 1 := Fld.mk' 1 _ Tryz.underlying77 rfl sz3
instance : FlI Tryz.prog 77 1 1 := ⟨fl77_1⟩
theorem fl77_2 : Fld Tryz.prog 77 2 2 := Fld.mk' 2 _ Tryz.underlying77 rfl sz3
instance : FlI Tryz.prog 77 2 2 := ⟨fl77_2⟩
theorem fl77_3 : Fld Tryz.prog 77 3 3 := Fld.mk' 3 _ Tryz.underlying77 rfl sz3
instance : FlI Tryz.prog 77 3 3 := ⟨fl77_3⟩
theorem fl77_4 : Fld Tryz.prog 77 4 4 := Fld.mk' 4 _ Tryz.underlying77 rfl sz75
instance : FlI Tryz.prog 77 4 4 := ⟨fl77_4⟩
theorem fl77_5 : Fld Tryz.prog 77 5 6 := Fld.mk' 5 _ Tryz.underlying77 rfl sz24
instance : FlI Tryz.prog 77 5 6 := ⟨fl77_5⟩
theorem fl77_6 : Fld Tryz.prog 77 6 7 := Fld.mk' 6 _ Tryz.underlying77 rfl sz24
instance : FlI Tryz.prog 77 6 7 := ⟨fl77_6⟩
theorem fl77_7 : Fld Tryz.prog 77 7 8 := Fld.mk' 7 _ Tryz.underlying77 rfl sz3
instance : FlI Tryz.prog 77 7 8 := ⟨fl77_7⟩
theorem fl77_8 : Fld Tryz.prog 77 8 9 := Fld.mk' 8 _ Tryz.underlying77 rfl sz3
instance : FlI Tryz.prog 77 8 9 := ⟨fl77_8⟩
theorem sl42 : Sl Tryz.prog 42 77 := Tryz.underlying42
instance : SlI Tryz.prog 42 77 := ⟨Tryz.underlying42⟩
theorem sz42 : Sz Tryz.prog 42 1 := Tryz.sizeOf42
theorem ag42 : Ag Tryz.prog 42 false := Tryz.isAgg42
instance : AgI Tryz.prog 42 false := ⟨ag42⟩
instance : TyI Tryz.prog 42 [.s 10 0 fun _ _ => .j] := TyI.mk' (i := Tryz.t42) (by kernel_rfl) (by decide) (by decide) rfl (by decide) ⟨⟨by decide, rfl, rfl⟩, trivial⟩
theorem sz43 : Sz Tryz.prog 43 1 := Tryz.sizeOf43
instance : SzI Tryz.prog 43 1 := ⟨sz43⟩
theorem ag43 : Ag Tryz.prog 43 true := Tryz.isAgg43
instance : AgI Tryz.prog 43 true := ⟨ag43⟩
instance : TyI Tryz.prog 43 [.s 1 0 fun _ _ => .j] := TyI.mk' (i := Tryz.t43) (by kernel_rfl) (by decide) (by decide) rfl (by decide) ⟨⟨by decide, rfl, rfl⟩, trivial⟩
instance : FlI Tryz.prog 43 0 0 := ⟨Fld.mk' 0 _ Tryz.underlying43 rfl sz25⟩
theorem sz83 : Sz Tryz.prog 83 2 := Tryz.sizeOf83
instance : SzI Tryz.prog 83 2 := ⟨sz83⟩
theorem ag83 : Ag Tryz.prog 83 true := Tryz.isAgg83
instance : AgI Tryz.prog 83 true := ⟨ag83⟩
instance : TyI Tryz.prog 83 [.v (.int .i64 0), .s 1 0 fun _ _ => .j] := TyI.mk' (i := Tryz.t83) (by kernel_rfl) (by decide) (by decide) rfl (by decide) ⟨⟨rfl, rfl⟩, ⟨by decide, rfl, rfl⟩, trivial⟩
theorem fl83_0 : Fld Tryz.prog 83 0 0 := Fld.mk' 0 _ Tryz.underlying83 rfl sz3
instance : FlI Tryz.prog 83 0 0 := ⟨fl83_0⟩
theorem fl83_1 : Fld Tryz.prog 83 1 1 := Fld.mk' 1 _ Tryz.underlying83 rfl sz25
instance : FlI Tryz.prog 83 1 1 := ⟨fl83_1⟩
theorem sl44 : Sl Tryz.prog 44 83 := Tryz.underlying44
instance : SlI Tryz.prog 44 83 := ⟨Tryz.underlying44⟩
theorem sz44 : Sz Tryz.prog 44 1 := Tryz.sizeOf44
theorem ag44 : Ag Tryz.prog 44 false := Tryz.isAgg44
instance : AgI Tryz.prog 44 false := ⟨ag44⟩
instance : TyI Tryz.prog 44 [.s 2 0 fun _ _ => .j] := TyI.mk' (i := Tryz.t44) (by kernel_rfl) (by decide) (by decide) rfl (by decide) ⟨⟨by decide, rfl, rfl⟩, trivial⟩
theorem sz46 : Sz Tryz.prog 46 11 := Tryz.sizeOf46
instance : SzI Tryz.prog 46 11 := ⟨sz46⟩
theorem ag46 : Ag Tryz.prog 46 true := Tryz.isAgg46
instance : AgI Tryz.prog 46 true := ⟨ag46⟩
instance : TyI Tryz.prog 46 [.v (.int .i64 0), .v (.int .i64 0), .s 1 0 fun _ _ => .j, .s 10 0 fun _ _ => .j, .s 1 0 fun _ _ => .j, .s 1 0 fun _ _ => .j, .s 5 0 fun _ _ => .j, .s 2 0 fun _ _ => .j, .s 2 0 fun _ _ => .j, .s 1 0 fun _ _ => .j, .s 1 0 fun _ _ => .j] := TyI.mk' (i := Tryz.t46) (by kernel_rfl) (by decide) (by decide) rfl (by decide) ⟨⟨rfl, rfl⟩, ⟨rfl, rfl⟩, ⟨by decide, rfl, rfl⟩, ⟨by decide, rfl, rfl⟩, ⟨by decide, rfl, rfl⟩, ⟨by decide, rfl, rfl⟩, ⟨by decide, rfl, rfl⟩, ⟨by decide, rfl, rfl⟩, ⟨by decide, rfl, rfl⟩, ⟨by decide, rfl, rfl⟩, ⟨by decide, rfl, rfl⟩, trivial⟩
theorem fl46_0 : Fld Tryz.prog 46 0 0 := Fld.mk' 0 _ Tryz.underlying46 rfl sz3
instance : FlI Tryz.prog 46 0 0 := ⟨fl46_0⟩
theorem fl46_1 : Fld Tryz.prog 46 1 1 := Fld.mk' 1 _ Tryz.underlying46 rfl sz3
instance : FlI Tryz.prog 46 1 1 := ⟨fl46_1⟩
theorem fl46_2 : Fld Tryz.prog 46 2 2 := Fld.mk' 2 _ Tryz.underlying46 rfl sz34
instance : FlI Tryz.prog 46 2 2 := ⟨fl46_2⟩
theorem fl46_3 : Fld Tryz.prog 46 3 3 := Fld.mk' 3 _ Tryz.underlying46 rfl sz42
instance : FlI Tryz.prog 46 3 3 := ⟨fl46_3⟩
theorem fl46_4 : Fld Tryz.prog 46 4 4 := Fld.mk' 4 _ Tryz.underlying46 rfl sz24
instance : FlI Tryz.prog 46 4 4 := ⟨fl46_4⟩
instance : FlI Tryz.prog 46 5 5 := ⟨Fld.mk' 5 _ Tryz.underlying46 rfl sz43⟩
theorem fl46_6 : Fld Tryz.prog 46 6 6 := Fld.mk' 6 _ Tryz.underlying46 rfl sz36
instance : FlI Tryz.prog 46 6 6 := ⟨fl46_6⟩
theorem fl46_7 : Fld Tryz.prog 46 7 7 := Fld.mk' 7 _ Tryz.underlying46 rfl sz44
instance : FlI Tryz.prog 46 7 7 := ⟨fl46_7⟩
theorem fl46_8 : Fld Tryz.prog 46 8 8 := Fld.mk' 8 _ Tryz.underlying46 rfl sz38
instance : FlI Tryz.prog 46 8 8 := ⟨fl46_8⟩
theorem fl46_9 : Fld Tryz.prog 46 9 9 := Fld.mk' 9 _ Tryz.underlying46 rfl sz24
instance : FlI Tryz.prog 46 9 9 := ⟨fl46_9⟩
theorem fl46_10 : Fld Tryz.prog 46 10 10 := Fld.mk' 10 _ Tryz.underlying46 rfl sz24
instance : FlI Tryz.prog 46 10 10 := ⟨fl46_10⟩
end Go.Proofs.YtekcnnngjoonbaaGreat.VM
