/- Contracts. No conditions. -/
import Derived.Test.YthjfgpkjooaahaaGreatVmD
import Derived.Test.YthjfgpkjooaahaaGreatProg
set_option linter.all false
set_option maxHeartbeats 8000000
set_option maxRecDepth 10000
namespace Go.Proofs.YthjfgpkjooaahaaGreat.VM
open Go Go.RowKit Go.Proofs
theorem sz3 : Sz Tryz.prog 3 1 := Tryz.sizeOf3
instance : SzI Tryz.prog 3 1 := ⟨sz3⟩
instance : AgI Tryz.prog 3 false := ⟨Tryz.isAgg3⟩
instance : TyI Tryz.prog 3 [.v (.int .i64 0)] := TyI.mk' (i := Tryz.t3) (by kernel_rfl) (by decide) (by decide) rfl (by decide) ⟨⟨rfl, rfl⟩, trivial⟩
theorem sz4 : Sz Tryz.prog 4 1 := Tryz.sizeOf4
instance : SzI Tryz.prog 4 1 := ⟨sz4⟩
instance : AgI Tryz.prog 4 false := ⟨Tryz.isAgg4⟩
instance : TyI Tryz.prog 4 [.v (.bool false)] := TyI.mk' (i := Tryz.t4) (by kernel_rfl) (by decide) (by decide) rfl (by decide) ⟨⟨rfl, rfl⟩, trivial⟩
instance : SzI Tryz.prog 292 4 := ⟨Tryz.sizeOf292⟩
instance : AgI Tryz.prog 292 true := ⟨Tryz.isAgg292⟩
instance : TyI Tryz.prog 292 [.v (.int .i64 0), .v (.int .i64 0), .v (.int .i64 0), .v (.int .i64 0)] := TyI.mk' (i := Tryz.t292) (by kernel_rfl) (by decide) (by decide) rfl (by decide) ⟨⟨rfl, rfl⟩, ⟨rfl, rfl⟩, ⟨rfl, rfl⟩, ⟨rfl, rfl⟩, trivial⟩
instance : FlI Tryz.prog 292 0 0 := ⟨Fld.mk' 0 _ Tryz.underlying292 rfl sz3⟩
instance : FlI Tryz.prog 292 1 1 := ⟨Fld.mk' 1 _ Tryz.underlying292 rfl sz3⟩
instance : FlI Tryz.prog 292 2 2 := ⟨Fld.mk' 2 _ Tryz.underlying292 rfl sz3⟩
instance : FlI Tryz.prog 292 3 3 := ⟨Fld.mk' 3 _ Tryz.underlying292 rfl sz3⟩
instance : SlI Tryz.prog 188 292 := ⟨Tryz.underlying188⟩
instance : SzI Tryz.prog 188 1 := ⟨Tryz.sizeOf188⟩
instance : AgI Tryz.prog 188 false := ⟨Tryz.isAgg188⟩
instance : SlI Tryz.prog 22 188 := ⟨Tryz.underlying22⟩
theorem sz22 : Sz Tryz.prog 22 1 := Tryz.sizeOf22
instance : AgI Tryz.prog 22 false := ⟨Tryz.isAgg22⟩
theorem sl27 : Sl Tryz.prog 27 3 := Tryz.underlying27
instance : SlI Tryz.prog 27 3 := ⟨Tryz.underlying27⟩
theorem sz27 : Sz Tryz.prog 27 1 := Tryz.sizeOf27
instance : AgI Tryz.prog 27 false := ⟨Tryz.isAgg27⟩
instance : TyI Tryz.prog 27 [.s 1 0 fun _ _ => .j] := TyI.mk' (i := Tryz.t27) (by kernel_rfl) (by decide) (by decide) rfl (by decide) ⟨⟨by decide, rfl, rfl⟩, trivial⟩
theorem sz190 : Sz Tryz.prog 190 2 := Tryz.sizeOf190
instance : SzI Tryz.prog 190 2 := ⟨sz190⟩
instance : AgI Tryz.prog 190 true := ⟨Tryz.isAgg190⟩
instance : TyI Tryz.prog 190 [.v (.int .i64 0), .s 1 0 fun _ _ => .j] := TyI.mk' (i := Tryz.t190) (by kernel_rfl) (by decide) (by decide) rfl (by decide) ⟨⟨rfl, rfl⟩, ⟨by decide, rfl, rfl⟩, trivial⟩
instance : FlI Tryz.prog 190 0 0 := ⟨Fld.mk' 0 _ Tryz.underlying190 rfl sz3⟩
instance : FlI Tryz.prog 190 1 1 := ⟨Fld.mk' 1 _ Tryz.underlying190 rfl sz27⟩
instance : SzI Tryz.prog 192 10 := ⟨Tryz.sizeOf192⟩
instance : AgI Tryz.prog 192 true := ⟨Tryz.isAgg192⟩
instance : TyI Tryz.prog 192 [.v (.int .i64 0), .v (.int .i64 0), .v (.int .i64 0), .v (.int .i64 0), .v (.int .i64 0), .s 1 0 fun _ _ => .j, .s 1 0 fun _ _ => .j, .s 1 0 fun _ _ => .j, .v (.int .i64 0), .v (.int .i64 0)] := TyI.mk' (i := Tryz.t192) (by kernel_rfl) (by decide) (by decide) rfl (by decide) ⟨⟨rfl, rfl⟩, ⟨rfl, rfl⟩, ⟨rfl, rfl⟩, ⟨rfl, rfl⟩, ⟨rfl, rfl⟩, ⟨by decide, rfl, rfl⟩, ⟨by decide, rfl, rfl⟩, ⟨by decide, rfl, rfl⟩, ⟨rfl, rfl⟩, ⟨rfl, rfl⟩, trivial⟩
instance : FlI Tryz.prog 192 0 0 := ⟨Fld.mk' 0 _ Tryz.underlying192 rfl sz3⟩
instance : FlI Tryz.prog 192 1 1 := ⟨Fld.mk' 1 _ Tryz.underlying192 rfl sz3⟩
instance : FlI Tryz.prog 192 2 2 := ⟨Fld.mk' 2 _ Tryz.underlying192 rfl sz3⟩
instance : FlI Tryz.prog 192 3 3 := ⟨Fld.mk' 3 _ Tryz.underlying192 rfl sz3⟩
instance : FlI Tryz.prog 192 4 4 := ⟨Fld.mk' 4 _ Tryz.underlying192 rfl sz190⟩
instance : FlI Tryz.prog 192 5 6 := ⟨Fld.mk' 5 _ Tryz.underlying192 rfl sz27⟩
instance : FlI Tryz.prog 192 6 7 := ⟨Fld.mk' 6 _ Tryz.underlying192 rfl sz27⟩
instance : FlI Tryz.prog 192 7 8 := ⟨Fld.mk' 7 _ Tryz.underlying192 rfl sz3⟩
instance : FlI Tryz.prog 192 8 9 := ⟨Fld.mk' 8 _ Tryz.underlying192 rfl sz3⟩
instance : SlI Tryz.prog 23 192 := ⟨Tryz.underlying23⟩
theorem sz23 : Sz Tryz.prog 23 1 := Tryz.sizeOf23
instance : AgI Tryz.prog 23 false := ⟨Tryz.isAgg23⟩
instance : SzI Tryz.prog 210 5 := ⟨Tryz.sizeOf210⟩
instance : AgI Tryz.prog 210 true := ⟨Tryz.isAgg210⟩
instance : TyI Tryz.prog 210 [.v (.int .i64 0), .v (.int .i64 0), .v (.int .i64 0), .v (.int .i64 0), .v (.int .i64 0)] := TyI.mk' (i := Tryz.t210) (by kernel_rfl) (by decide) (by decide) rfl (by decide) ⟨⟨rfl, rfl⟩, ⟨rfl, rfl⟩, ⟨rfl, rfl⟩, ⟨rfl, rfl⟩, ⟨rfl, rfl⟩, trivial⟩
instance : FlI Tryz.prog 210 0 0 := ⟨Fld.mk' 0 _ Tryz.underlying210 rfl sz3⟩
instance : FlI Tryz.prog 210 1 1 := ⟨Fld.mk' 1 _ Tryz.underlying210 rfl sz3⟩
instance : FlI Tryz.prog 210 2 2 := ⟨Fld.mk' 2 _ Tryz.underlying210 rfl sz3⟩
instance : FlI Tryz.prog 210 3 3 := ⟨Fld.mk' 3 _ Tryz.underlying210 rfl sz3⟩
instance : FlI Tryz.prog 210 4 4 := ⟨Fld.mk' 4 _ Tryz.underlying210 rfl sz3⟩
instance : SlI Tryz.prog 24 210 := ⟨Tryz.underlying24⟩
theorem sz24 : Sz Tryz.prog 24 1 := Tryz.sizeOf24
instance : AgI Tryz.prog 24 false := ⟨Tryz.isAgg24⟩
instance : SzI Tryz.prog 194 2 := ⟨Tryz.sizeOf194⟩
instance : AgI Tryz.prog 194 true := ⟨Tryz.isAgg194⟩
instance : TyI Tryz.prog 194 [.v (.int .i64 0), .s 1 0 fun _ _ => .j] := TyI.mk' (i := Tryz.t194) (by kernel_rfl) (by decide) (by decide) rfl (by decide) ⟨⟨rfl, rfl⟩, ⟨by decide, rfl, rfl⟩, trivial⟩
instance : FlI Tryz.prog 194 0 0 := ⟨Fld.mk' 0 _ Tryz.underlying194 rfl sz3⟩
instance : FlI Tryz.prog 194 1 1 := ⟨Fld.mk' 1 _ Tryz.underlying194 rfl sz27⟩
instance : SlI Tryz.prog 25 194 := ⟨Tryz.underlying25⟩
theorem sz25 : Sz Tryz.prog 25 1 := Tryz.sizeOf25
instance : AgI Tryz.prog 25 false := ⟨Tryz.isAgg25⟩
instance : SzI Tryz.prog 196 2 := ⟨Tryz.sizeOf196⟩
instance : AgI Tryz.prog 196 true := ⟨Tryz.isAgg196⟩
instance : TyI Tryz.prog 196 [.v (.int .i64 0), .s 1 0 fun _ _ => .j] := TyI.mk' (i := Tryz.t196) (by kernel_rfl) (by decide) (by decide) rfl (by decide) ⟨⟨rfl, rfl⟩, ⟨by decide, rfl, rfl⟩, trivial⟩
instance : FlI Tryz.prog 196 0 0 := ⟨Fld.mk' 0 _ Tryz.underlying196 rfl sz3⟩
instance : FlI Tryz.prog 196 1 1 := ⟨Fld.mk' 1 _ Tryz.underlying196 rfl sz27⟩
instance : SlI Tryz.prog 26 196 := ⟨Tryz.underlying26⟩
theorem sz26 : Sz Tryz.prog 26 1 := Tryz.sizeOf26
instance : AgI Tryz.prog 26 false := ⟨Tryz.isAgg26⟩
instance : SzI Tryz.prog 29 9 := ⟨Tryz.sizeOf29⟩
instance : AgI Tryz.prog 29 true := ⟨Tryz.isAgg29⟩
instance : TyI Tryz.prog 29 [.v (.int .i64 0), .v (.int .i64 0), .s 1 0 fun _ _ => .j, .s 10 0 fun _ _ => .j, .s 5 0 fun _ _ => .j, .s 2 0 fun _ _ => .j, .s 2 0 fun _ _ => .j, .s 1 0 fun _ _ => .j, .s 1 0 fun _ _ => .j] := TyI.mk' (i := Tryz.t29) (by kernel_rfl) (by decide) (by decide) rfl (by decide) ⟨⟨rfl, rfl⟩, ⟨rfl, rfl⟩, ⟨by decide, rfl, rfl⟩, ⟨by decide, rfl, rfl⟩, ⟨by decide, rfl, rfl⟩, ⟨by decide, rfl, rfl⟩, ⟨by decide, rfl, rfl⟩, ⟨by decide, rfl, rfl⟩, ⟨by decide, rfl, rfl⟩, trivial⟩
instance : FlI Tryz.prog 29 0 0 := ⟨Fld.mk' 0 _ Tryz.underlying29 rfl sz3⟩
instance : FlI Tryz.prog 29 1 1 := ⟨Fld.mk' 1 _ Tryz.underlying29 rfl sz3⟩
instance : FlI Tryz.prog 29 2 2 := ⟨Fld.mk' 2 _ Tryz.underlying29 rfl sz22⟩
instance : FlI Tryz.prog 29 3 3 := ⟨Fld.mk' 3 _ Tryz.underlying29 rfl sz23⟩
instance : FlI Tryz.prog 29 4 4 := ⟨Fld.mk' 4 _ Tryz.underlying29 rfl sz24⟩
instance : FlI Tryz.prog 29 5 5 := ⟨Fld.mk' 5 _ Tryz.underlying29 rfl sz25⟩
instance : FlI Tryz.prog 29 6 6 := ⟨Fld.mk' 6 _ Tryz.underlying29 rfl sz26⟩
instance : FlI Tryz.prog 29 7 7 := ⟨Fld.mk' 7 _ Tryz.underlying29 rfl sz27⟩
instance : FlI Tryz.prog 29 8 8 := ⟨Fld.mk' 8 _ Tryz.underlying29 rfl sz27⟩
theorem sz220 : Sz Tryz.prog 220 4 := Tryz.sizeOf220
instance : SzI Tryz.prog 220 4 := ⟨sz220⟩
theorem ag220 : Ag Tryz.prog 220 true := Tryz.isAgg220
instance : AgI Tryz.prog 220 true := ⟨ag220⟩
instance : TyI Tryz.prog 220 [.v (.int .i64 0), .v (.int .i64 0), .v (.int .i64 0), .v (.int .i64 0)] := TyI.mk' (i := Tryz.t220) (by kernel_rfl) (by decide) (by decide) rfl (by decide) ⟨⟨rfl, rfl⟩, ⟨rfl, rfl⟩, ⟨rfl, rfl⟩, ⟨rfl, rfl⟩, trivial⟩
instance : FlI Tryz.prog 220 0 0 := ⟨Fld.mk' 0 _ Tryz.underlying220 rfl sz3⟩
instance : FlI Tryz.prog 220 1 1 := ⟨Fld.mk' 1 _ Tryz.underlying220 rfl sz3⟩
instance : FlI Tryz.prog 220 2 2 := ⟨Fld.mk' 2 _ Tryz.underlying220 rfl sz3⟩
instance : FlI Tryz.prog 220 3 3 := ⟨Fld.mk' 3 _ Tryz.underlying220 rfl sz3⟩
instance : BdI Tryz.prog 220 [(0, 1), (1, 1), (2, 1), (3, 1)] := ⟨⟨_, Tryz.underlying220, fun w => by simp [Tryz.sizeOf3]⟩⟩
theorem sl206 : Sl Tryz.prog 206 220 := Tryz.underlying206
instance : SlI Tryz.prog 206 220 := ⟨Tryz.underlying206⟩
instance : SzI Tryz.prog 206 1 := ⟨Tryz.sizeOf206⟩
instance : AgI Tryz.prog 206 false := ⟨Tryz.isAgg206⟩
instance : TyI Tryz.prog 206 [.s 4 0 fun _ _ => .j] := TyI.mk' (i := Tryz.t206) (by kernel_rfl) (by decide) (by decide) rfl (by decide) ⟨⟨by decide, rfl, rfl⟩, trivial⟩
instance : SlI Tryz.prog 31 206 := ⟨Tryz.underlying31⟩
theorem sz31 : Sz Tryz.prog 31 1 := Tryz.sizeOf31
instance : AgI Tryz.prog 31 false := ⟨Tryz.isAgg31⟩
instance : TyI Tryz.prog 31 [.s 1 0 fun _ _ => .j] := TyI.mk' (i := Tryz.t31) (by kernel_rfl) (by decide) (by decide) rfl (by decide) ⟨⟨by decide, rfl, rfl⟩, trivial⟩
theorem sz108 : Sz Tryz.prog 108 11 := Tryz.sizeOf108
instance : SzI Tryz.prog 108 11 := ⟨sz108⟩
theorem ag108 : Ag Tryz.prog 108 true := Tryz.isAgg108
instance : AgI Tryz.prog 108 true := ⟨ag108⟩
instance : TyI Tryz.prog 108 [.v (.bool false), .v (.int .i64 0), .v (.int .i64 0), .v (.int .i64 0), .v (.int .i64 0), .v (.int .i64 0), .v (.int .i64 0), .v (.int .i64 0), .s 1 0 fun _ _ => .j, .s 1 0 fun _ _ => .j, .s 1 0 fun _ _ => .j] := TyI.mk' (i := Tryz.t108) (by kernel_rfl) (by decide) (by decide) rfl (by decide) ⟨⟨rfl, rfl⟩, ⟨rfl, rfl⟩, ⟨rfl, rfl⟩, ⟨rfl, rfl⟩, ⟨rfl, rfl⟩, ⟨rfl, rfl⟩, ⟨rfl, rfl⟩, ⟨rfl, rfl⟩, ⟨by decide, rfl, rfl⟩, ⟨by decide, rfl, rfl⟩, ⟨by decide, rfl, rfl⟩, trivial⟩
instance : FlI Tryz.prog 108 0 0 := ⟨Fld.mk' 0 _ Tryz.underlying108 rfl sz4⟩
instance : FlI Tryz.prog 108 1 1 := ⟨Fld.mk' 1 _ Tryz.underlying108 rfl sz3⟩
instance : FlI Tryz.prog 108 2 2 := ⟨Fld.mk' 2 _ Tryz.underlying108 rfl sz3⟩
instance : FlI Tryz.prog 108 3 3 := ⟨Fld.mk' 3 _ Tryz.underlying108 rfl sz3⟩
instance : FlI Tryz.prog 108 4 4 := ⟨Fld.mk' 4 _ Tryz.underlying108 rfl sz3⟩
instance : FlI Tryz.prog 108 5 5 := ⟨Fld.mk' 5 _ Tryz.underlying108 rfl sz3⟩
instance : FlI Tryz.prog 108 6 6 := ⟨Fld.mk' 6 _ Tryz.underlying108 rfl sz3⟩
instance : FlI Tryz.prog 108 7 7 := ⟨Fld.mk' 7 _ Tryz.underlying108 rfl sz3⟩
instance : FlI Tryz.prog 108 8 8 := ⟨Fld.mk' 8 _ Tryz.underlying108 rfl sz27⟩
instance : FlI Tryz.prog 108 9 9 := ⟨Fld.mk' 9 _ Tryz.underlying108 rfl sz27⟩
instance : FlI Tryz.prog 108 10 10 := ⟨Fld.mk' 10 _ Tryz.underlying108 rfl sz27⟩
instance : BdI Tryz.prog 108 [(0, 1), (1, 1), (2, 1), (3, 1), (4, 1), (5, 1), (6, 1), (7, 1), (8, 1), (9, 1), (10, 1)] := ⟨⟨_, Tryz.underlying108, fun w => by simp [Tryz.sizeOf27, Tryz.sizeOf3, Tryz.sizeOf4]⟩⟩
instance : SlI Tryz.prog 32 108 := ⟨Tryz.underlying32⟩
theorem sz32 : Sz Tryz.prog 32 1 := Tryz.sizeOf32
instance : AgI Tryz.prog 32 false := ⟨Tryz.isAgg32⟩
instance : TyI Tryz.prog 32 [.s 11 0 fun _ _ => .j] := TyI.mk' (i := Tryz.t32) (by kernel_rfl) (by decide) (by decide) rfl (by decide) ⟨⟨by decide, rfl, rfl⟩, trivial⟩
theorem sl33 : Sl Tryz.prog 33 4 := Tryz.underlying33
instance : SlI Tryz.prog 33 4 := ⟨Tryz.underlying33⟩
theorem sz33 : Sz Tryz.prog 33 1 := Tryz.sizeOf33
instance : AgI Tryz.prog 33 false := ⟨Tryz.isAgg33⟩
instance : TyI Tryz.prog 33 [.s 1 0 fun _ _ => .j] := TyI.mk' (i := Tryz.t33) (by kernel_rfl) (by decide) (by decide) rfl (by decide) ⟨⟨by decide, rfl, rfl⟩, trivial⟩
instance : SzI Tryz.prog 113 5 := ⟨Tryz.sizeOf113⟩
instance : AgI Tryz.prog 113 true := ⟨Tryz.isAgg113⟩
instance : TyI Tryz.prog 113 [.v (.bool false), .v (.int .i64 0), .v (.int .i64 0), .v (.int .i64 0), .v (.int .i64 0)] := TyI.mk' (i := Tryz.t113) (by kernel_rfl) (by decide) (by decide) rfl (by decide) ⟨⟨rfl, rfl⟩, ⟨rfl, rfl⟩, ⟨rfl, rfl⟩, ⟨rfl, rfl⟩, ⟨rfl, rfl⟩, trivial⟩
instance : FlI Tryz.prog 113 0 0 := ⟨Fld.mk' 0 _ Tryz.underlying113 rfl sz4⟩
instance : FlI Tryz.prog 113 1 1 := ⟨Fld.mk' 1 _ Tryz.underlying113 rfl sz3⟩
instance : FlI Tryz.prog 113 2 2 := ⟨Fld.mk' 2 _ Tryz.underlying113 rfl sz3⟩
instance : FlI Tryz.prog 113 3 3 := ⟨Fld.mk' 3 _ Tryz.underlying113 rfl sz3⟩
instance : FlI Tryz.prog 113 4 4 := ⟨Fld.mk' 4 _ Tryz.underlying113 rfl sz3⟩
instance : BdI Tryz.prog 113 [(0, 1), (1, 1), (2, 1), (3, 1), (4, 1)] := ⟨⟨_, Tryz.underlying113, fun w => by simp [Tryz.sizeOf3, Tryz.sizeOf4]⟩⟩
instance : SlI Tryz.prog 34 113 := ⟨Tryz.underlying34⟩
theorem sz34 : Sz Tryz.prog 34 1 := Tryz.sizeOf34
instance : AgI Tryz.prog 34 false := ⟨Tryz.isAgg34⟩
theorem sz38 : Sz Tryz.prog 38 4 := Tryz.sizeOf38
instance : SzI Tryz.prog 38 4 := ⟨sz38⟩
theorem ag38 : Ag Tryz.prog 38 true := Tryz.isAgg38
instance : AgI Tryz.prog 38 true := ⟨ag38⟩
instance : TyI Tryz.prog 38 [.v (.bool false), .s 1 0 fun _ _ => .j, .v (.int .i64 0), .v (.int .i64 0)] := TyI.mk' (i := Tryz.t38) (by kernel_rfl) (by decide) (by decide) rfl (by decide) ⟨⟨rfl, rfl⟩, ⟨by decide, rfl, rfl⟩, ⟨rfl, rfl⟩, ⟨rfl, rfl⟩, trivial⟩
instance : FlI Tryz.prog 38 0 0 := ⟨Fld.mk' 0 _ Tryz.underlying38 rfl sz4⟩
instance : FlI Tryz.prog 38 1 1 := ⟨Fld.mk' 1 _ Tryz.underlying38 rfl sz27⟩
instance : FlI Tryz.prog 38 2 2 := ⟨Fld.mk' 2 _ Tryz.underlying38 rfl sz3⟩
instance : FlI Tryz.prog 38 3 3 := ⟨Fld.mk' 3 _ Tryz.underlying38 rfl sz3⟩
instance : BdI Tryz.prog 38 [(0, 1), (1, 1), (2, 1), (3, 1)] := ⟨⟨_, Tryz.underlying38, fun w => by simp [Tryz.sizeOf27, Tryz.sizeOf3, Tryz.sizeOf4]⟩⟩
instance : SlI Tryz.prog 35 38 := ⟨Tryz.underlying35⟩
theorem sz35 : Sz Tryz.prog 35 1 := Tryz.sizeOf35
instance : AgI Tryz.prog 35 false := ⟨Tryz.isAgg35⟩
instance : TyI Tryz.prog 35 [.s 4 0 fun _ _ => .j] := TyI.mk' (i := Tryz.t35) (by kernel_rfl) (by decide) (by decide) rfl (by decide) ⟨⟨by decide, rfl, rfl⟩, trivial⟩
instance : SzI Tryz.prog 121 2 := ⟨Tryz.sizeOf121⟩
instance : AgI Tryz.prog 121 true := ⟨Tryz.isAgg121⟩
instance : TyI Tryz.prog 121 [.v (.bool false), .s 1 0 fun _ _ => .j] := TyI.mk' (i := Tryz.t121) (by kernel_rfl) (by decide) (by decide) rfl (by decide) ⟨⟨rfl, rfl⟩, ⟨by decide, rfl, rfl⟩, trivial⟩
instance : FlI Tryz.prog 121 0 0 := ⟨Fld.mk' 0 _ Tryz.underlying121 rfl sz4⟩
instance : FlI Tryz.prog 121 1 1 := ⟨Fld.mk' 1 _ Tryz.underlying121 rfl sz27⟩
instance : BdI Tryz.prog 121 [(0, 1), (1, 1)] := ⟨⟨_, Tryz.underlying121, fun w => by simp [Tryz.sizeOf27, Tryz.sizeOf4]⟩⟩
instance : SlI Tryz.prog 36 121 := ⟨Tryz.underlying36⟩
theorem sz36 : Sz Tryz.prog 36 1 := Tryz.sizeOf36
instance : AgI Tryz.prog 36 false := ⟨Tryz.isAgg36⟩
theorem sz40 : Sz Tryz.prog 40 14 := Tryz.sizeOf40
instance : SzI Tryz.prog 40 14 := ⟨sz40⟩
theorem ag40 : Ag Tryz.prog 40 true := Tryz.isAgg40
instance : AgI Tryz.prog 40 true := ⟨ag40⟩
instance : TyI Tryz.prog 40 [.v (.int .i64 0), .v (.int .i64 0), .s 1 0 fun _ _ => .j, .s 11 0 fun _ _ => .j, .s 1 0 fun _ _ => .j, .s 1 0 fun _ _ => .j, .s 5 0 fun _ _ => .j, .s 4 0 fun _ _ => .j, .s 2 0 fun _ _ => .j, .v (.bool false), .s 1 0 fun _ _ => .j, .v (.int .i64 0), .v (.int .i64 0), .s 1 0 fun _ _ => .j] := TyI.mk' (i := Tryz.t40) (by kernel_rfl) (by decide) (by decide) rfl (by decide) ⟨⟨rfl, rfl⟩, ⟨rfl, rfl⟩, ⟨by decide, rfl, rfl⟩, ⟨by decide, rfl, rfl⟩, ⟨by decide, rfl, rfl⟩, ⟨by decide, rfl, rfl⟩, ⟨by decide, rfl, rfl⟩, ⟨by decide, rfl, rfl⟩, ⟨by decide, rfl, rfl⟩, ⟨rfl, rfl⟩, ⟨by decide, rfl, rfl⟩, ⟨rfl, rfl⟩, ⟨rfl, rfl⟩, ⟨by decide, rfl, rfl⟩, trivial⟩
instance : FlI Tryz.prog 40 0 0 := ⟨Fld.mk' 0 _ Tryz.underlying40 rfl sz3⟩
instance : FlI Tryz.prog 40 1 1 := ⟨Fld.mk' 1 _ Tryz.underlying40 rfl sz3⟩
instance : FlI Tryz.prog 40 2 2 := ⟨Fld.mk' 2 _ Tryz.underlying40 rfl sz31⟩
instance : FlI Tryz.prog 40 3 3 := ⟨Fld.mk' 3 _ Tryz.underlying40 rfl sz32⟩
instance : FlI Tryz.prog 40 4 4 := ⟨Fld.mk' 4 _ Tryz.underlying40 rfl sz27⟩
instance : FlI Tryz.prog 40 5 5 := ⟨Fld.mk' 5 _ Tryz.underlying40 rfl sz33⟩
instance : FlI Tryz.prog 40 6 6 := ⟨Fld.mk' 6 _ Tryz.underlying40 rfl sz34⟩
instance : FlI Tryz.prog 40 7 7 := ⟨Fld.mk' 7 _ Tryz.underlying40 rfl sz35⟩
instance : FlI Tryz.prog 40 8 8 := ⟨Fld.mk' 8 _ Tryz.underlying40 rfl sz36⟩
instance : FlI Tryz.prog 40 9 9 := ⟨Fld.mk' 9 _ Tryz.underlying40 rfl sz38⟩
instance : FlI Tryz.prog 40 10 13 := ⟨Fld.mk' 10 _ Tryz.underlying40 rfl sz27⟩
instance : BdI Tryz.prog 40 [(0, 1), (1, 1), (2, 1), (3, 1), (4, 1), (5, 1), (6, 1), (7, 1), (8, 1), (9, 4), (13, 1)] := ⟨⟨_, Tryz.underlying40, fun w => by simp [Tryz.sizeOf27, Tryz.sizeOf3, Tryz.sizeOf31, Tryz.sizeOf32, Tryz.sizeOf33, Tryz.sizeOf34, Tryz.sizeOf35, Tryz.sizeOf36, Tryz.sizeOf38]⟩⟩
theorem sz103 : Sz Tryz.prog 103 2 := Tryz.sizeOf103
instance : SzI Tryz.prog 103 2 := ⟨sz103⟩
theorem ag103 : Ag Tryz.prog 103 true := Tryz.isAgg103
instance : AgI Tryz.prog 103 true := ⟨ag103⟩
instance : TyI Tryz.prog 103 [.v (.int .i64 0), .s 1 0 fun _ _ => .j] := TyI.mk' (i := Tryz.t103) (by kernel_rfl) (by decide) (by decide) rfl (by decide) ⟨⟨rfl, rfl⟩, ⟨by decide, rfl, rfl⟩, trivial⟩
instance : FlI Tryz.prog 103 0 0 := ⟨Fld.mk' 0 _ Tryz.underlying103 rfl sz3⟩
instance : FlI Tryz.prog 103 1 1 := ⟨Fld.mk' 1 _ Tryz.underlying103 rfl sz27⟩
theorem sz105 : Sz Tryz.prog 105 10 := Tryz.sizeOf105
instance : SzI Tryz.prog 105 10 := ⟨sz105⟩
theorem ag105 : Ag Tryz.prog 105 true := Tryz.isAgg105
instance : AgI Tryz.prog 105 true := ⟨ag105⟩
instance : TyI Tryz.prog 105 [.v (.int .i64 0), .v (.int .i64 0), .v (.int .i64 0), .v (.int .i64 0), .v (.int .i64 0), .s 1 0 fun _ _ => .j, .s 1 0 fun _ _ => .j, .s 1 0 fun _ _ => .j, .v (.int .i64 0), .v (.int .i64 0)] := TyI.mk' (i := Tryz.t105) (by kernel_rfl) (by decide) (by decide) rfl (by decide) ⟨⟨rfl, rfl⟩, ⟨rfl, rfl⟩, ⟨rfl, rfl⟩, ⟨rfl, rfl⟩, ⟨rfl, rfl⟩, ⟨by decide, rfl, rfl⟩, ⟨by decide, rfl, rfl⟩, ⟨by decide, rfl, rfl⟩, ⟨rfl, rfl⟩, ⟨rfl, rfl⟩, trivial⟩
instance : FlI Tryz.prog 105 0 0 := ⟨Fld.mk' 0 _ Tryz.underlying105 rfl sz3⟩
instance : FlI Tryz.prog 105 1 1 := ⟨Fld.mk' 1 _ Tryz.underlying105 rfl sz3⟩
instance : FlI Tryz.prog 105 2 2 := ⟨Fld.mk' 2 _ Tryz.underlying105 rfl sz3⟩
instance : FlI Tryz.prog 105 3 3 := ⟨Fld.mk' 3 _ Tryz.underlying105 rfl sz3⟩
instance : FlI Tryz.prog 105 4 4 := ⟨Fld.mk' 4 _ Tryz.underlying105 rfl sz103⟩
instance : FlI Tryz.prog 105 5 6 := ⟨Fld.mk' 5 _ Tryz.underlying105 rfl sz27⟩
instance : FlI Tryz.prog 105 6 7 := ⟨Fld.mk' 6 _ Tryz.underlying105 rfl sz27⟩
instance : FlI Tryz.prog 105 7 8 := ⟨Fld.mk' 7 _ Tryz.underlying105 rfl sz3⟩
instance : FlI Tryz.prog 105 8 9 := ⟨Fld.mk' 8 _ Tryz.underlying105 rfl sz3⟩
theorem sl43 : Sl Tryz.prog 43 105 := Tryz.underlying43
instance : SlI Tryz.prog 43 105 := ⟨Tryz.underlying43⟩
theorem sz43 : Sz Tryz.prog 43 1 := Tryz.sizeOf43
instance : AgI Tryz.prog 43 false := ⟨Tryz.isAgg43⟩
instance : TyI Tryz.prog 43 [.s 10 0 fun _ _ => .j] := TyI.mk' (i := Tryz.t43) (by kernel_rfl) (by decide) (by decide) rfl (by decide) ⟨⟨by decide, rfl, rfl⟩, trivial⟩
theorem sz111 : Sz Tryz.prog 111 5 := Tryz.sizeOf111
instance : SzI Tryz.prog 111 5 := ⟨sz111⟩
theorem ag111 : Ag Tryz.prog 111 true := Tryz.isAgg111
instance : AgI Tryz.prog 111 true := ⟨ag111⟩
instance : TyI Tryz.prog 111 [.v (.int .i64 0), .v (.int .i64 0), .v (.int .i64 0), .v (.int .i64 0), .v (.int .i64 0)] := TyI.mk' (i := Tryz.t111) (by kernel_rfl) (by decide) (by decide) rfl (by decide) ⟨⟨rfl, rfl⟩, ⟨rfl, rfl⟩, ⟨rfl, rfl⟩, ⟨rfl, rfl⟩, ⟨rfl, rfl⟩, trivial⟩
instance : FlI Tryz.prog 111 0 0 := ⟨Fld.mk' 0 _ Tryz.underlying111 rfl sz3⟩
instance : FlI Tryz.prog 111 1 1 := ⟨Fld.mk' 1 _ Tryz.underlying111 rfl sz3⟩
instance : FlI Tryz.prog 111 2 2 := ⟨Fld.mk' 2 _ Tryz.underlying111 rfl sz3⟩
instance : FlI Tryz.prog 111 3 3 := ⟨Fld.mk' 3 _ Tryz.underlying111 rfl sz3⟩
instance : FlI Tryz.prog 111 4 4 := ⟨Fld.mk' 4 _ Tryz.underlying111 rfl sz3⟩
instance : SlI Tryz.prog 44 111 := ⟨Tryz.underlying44⟩
theorem sz44 : Sz Tryz.prog 44 1 := Tryz.sizeOf44
instance : AgI Tryz.prog 44 false := ⟨Tryz.isAgg44⟩
instance : TyI Tryz.prog 44 [.s 5 0 fun _ _ => .j] := TyI.mk' (i := Tryz.t44) (by kernel_rfl) (by decide) (by decide) rfl (by decide) ⟨⟨by decide, rfl, rfl⟩, trivial⟩
theorem sz115 : Sz Tryz.prog 115 2 := Tryz.sizeOf115
instance : SzI Tryz.prog 115 2 := ⟨sz115⟩
theorem ag115 : Ag Tryz.prog 115 true := Tryz.isAgg115
instance : AgI Tryz.prog 115 true := ⟨ag115⟩
instance : TyI Tryz.prog 115 [.v (.int .i64 0), .s 1 0 fun _ _ => .j] := TyI.mk' (i := Tryz.t115) (by kernel_rfl) (by decide) (by decide) rfl (by decide) ⟨⟨rfl, rfl⟩, ⟨by decide, rfl, rfl⟩, trivial⟩
instance : FlI Tryz.prog 115 0 0 := ⟨Fld.mk' 0 _ Tryz.underlying115 rfl sz3⟩
instance : FlI Tryz.prog 115 1 1 := ⟨Fld.mk' 1 _ Tryz.underlying115 rfl sz27⟩
instance : SlI Tryz.prog 45 115 := ⟨Tryz.underlying45⟩
theorem sz45 : Sz Tryz.prog 45 1 := Tryz.sizeOf45
instance : AgI Tryz.prog 45 false := ⟨Tryz.isAgg45⟩
instance : TyI Tryz.prog 45 [.s 2 0 fun _ _ => .j] := TyI.mk' (i := Tryz.t45) (by kernel_rfl) (by decide) (by decide) rfl (by decide) ⟨⟨by decide, rfl, rfl⟩, trivial⟩
theorem sz119 : Sz Tryz.prog 119 2 := Tryz.sizeOf119
instance : SzI Tryz.prog 119 2 := ⟨sz119⟩
theorem ag119 : Ag Tryz.prog 119 true := Tryz.isAgg119
instance : AgI Tryz.prog 119 true := ⟨ag119⟩
instance : TyI Tryz.prog 119 [.v (.int .i64 0), .s 1 0 fun _ _ => .j] := TyI.mk' (i := Tryz.t119) (by kernel_rfl) (by decide) (by decide) rfl (by decide) ⟨⟨rfl, rfl⟩, ⟨by decide, rfl, rfl⟩, trivial⟩
instance : FlI Tryz.prog 119 0 0 := ⟨Fld.mk' 0 _ Tryz.underlying119 rfl sz3⟩
instance : FlI Tryz.prog 119 1 1 := ⟨Fld.mk' 1 _ Tryz.underlying119 rfl sz27⟩
theorem sl46 : Sl Tryz.prog 46 119 := Tryz.underlying46
instance : SlI Tryz.prog 46 119 := ⟨Tryz.underlying46⟩
theorem sz46 : Sz Tryz.prog 46 1 := Tryz.sizeOf46
instance : AgI Tryz.prog 46 false := ⟨Tryz.isAgg46⟩
instance : TyI Tryz.prog 46 [.s 2 0 fun _ _ => .j] := TyI.mk' (i := Tryz.t46) (by kernel_rfl) (by decide) (by decide) rfl (by decide) ⟨⟨by decide, rfl, rfl⟩, trivial⟩
theorem sz48 : Sz Tryz.prog 48 9 := Tryz.sizeOf48
instance : SzI Tryz.prog 48 9 := ⟨sz48⟩
theorem ag48 : Ag Tryz.prog 48 true := Tryz.isAgg48
instance : AgI Tryz.prog 48 true := ⟨ag48⟩
instance : TyI Tryz.prog 48 [.v (.int .i64 0), .v (.int .i64 0), .s 1 0 fun _ _ => .j, .s 10 0 fun _ _ => .j, .s 5 0 fun _ _ => .j, .s 2 0 fun _ _ => .j, .s 2 0 fun _ _ => .j, .s 1 0 fun _ _ => .j, .s 1 0 fun _ _ => .j] := TyI.mk' (i := Tryz.t48) (by kernel_rfl) (by decide) (by decide) rfl (by decide) ⟨⟨rfl, rfl⟩, ⟨rfl, rfl⟩, ⟨by decide, rfl, rfl⟩, ⟨by decide, rfl, rfl⟩, ⟨by decide, rfl, rfl⟩, ⟨by decide, rfl, rfl⟩, ⟨by decide, rfl, rfl⟩, ⟨by decide, rfl, rfl⟩, ⟨by decide, rfl, rfl⟩, trivial⟩
instance : FlI Tryz.prog 48 0 0 := ⟨Fld.mk' 0 _ Tryz.underlying48 rfl sz3⟩
instance : FlI Tryz.prog 48 1 1 := ⟨Fld.mk' 1 _ Tryz.underlying48 rfl sz3⟩
instance : FlI Tryz.prog 48 2 2 := ⟨Fld.mk' 2 _ Tryz.underlying48 rfl sz31⟩
instance : FlI Tryz.prog 48 3 3 := ⟨Fld.mk' 3 _ Tryz.underlying48 rfl sz43⟩
instance : FlI Tryz.prog 48 4 4 := ⟨Fld.mk' 4 _ Tryz.underlying48 rfl sz44⟩
instance : FlI Tryz.prog 48 5 5 := ⟨Fld.mk' 5 _ Tryz.underlying48 rfl sz45⟩
instance : FlI Tryz.prog 48 6 6 := ⟨Fld.mk' 6 _ Tryz.underlying48 rfl sz46⟩
instance : FlI Tryz.prog 48 7 7 := ⟨Fld.mk' 7 _ Tryz.underlying48 rfl sz27⟩
instance : FlI Tryz.prog 48 8 8 := ⟨Fld.mk' 8 _ Tryz.underlying48 rfl sz27⟩
theorem eq220 (x0 : Int) (x1 : Int) (x2 : Int) (x3 : Int) (y0 : Int) (y1 : Int) (y2 : Int) (y3 : Int) (x y : Operand) (w : World) : (do eqGuard .eql 220 x y (.agg [iv x0, iv x1, iv x2, iv x3].toArray) (.agg [iv y0, iv y1, iv y2, iv y3].toArray); binOp .eql 220 (.agg [iv x0, iv x1, iv x2, iv x3].toArray) (.agg [iv y0, iv y1, iv y2, iv y3].toArray)).run Tryz.prog w = .ok (.bool (decide (x0 = y0 ∧ x1 = y1 ∧ x2 = y2 ∧ x3 = y3))) w := by
 have hg : ∀ w, (eqGuard .eql 220 x y (.agg [iv x0, iv x1, iv x2, iv x3].toArray) (.agg [iv y0, iv y1, iv y2, iv y3].toArray)).run Tryz.prog w = .ok () w := by
  intro w
  have : Tryz.prog.eqGuardType Tryz.prog.depth 220 = false := by kernel_rfl
  simp [eqGuard, this]
 have u3 := Tryz.underlying3
 have a3 := Tryz.isAgg3
 have z3 := Tryz.sizeOf3
 have hS : Tryz.prog.underlying 220 = some (.struct (Tryz.prog.fieldsOf 220)) := by kernel_rfl
 have hp : Tryz.prog.stoodInHeld 220 = false := by kernel_rfl
 simp only [Sem.run_bind, hg, Result.andThen]
 rw [run_eql_struct, show (10000 : Nat) = 9999 + 1 from rfl, run_equalIn_agg w 9999 220 _ _ hS hp]
 simp only [Program.fieldsOf, Tryz.underlying220]
 go_simp
 by_cases h0 : x0 = y0 <;> by_cases h1 : x1 = y1 <;> by_cases h2 : x2 = y2 <;> by_cases h3 : x3 = y3 <;> simp [h0, h1, h2, h3]
end Go.Proofs.YthjfgpkjooaahaaGreat.VM
