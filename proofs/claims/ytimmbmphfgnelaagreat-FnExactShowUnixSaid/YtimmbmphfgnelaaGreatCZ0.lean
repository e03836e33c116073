/- Contracts of functions of the program. No conditions beyond those that each states. -/
import Derived.Test.YtimmbmphfgnelaaGreatVmD
import Derived.Test.YtimmbmphfgnelaaGreatProg
set_option linter.all false
namespace Go.Proofs.YtimmbmphfgnelaaGreat.VM
open Go Go.RowKit Go.Proofs
theorem sz3 : Sz Tryz.prog 3 1 := Tryz.sizeOf3
theorem ag3 : Ag Tryz.prog 3 false := Tryz.isAgg3
instance : TyI Tryz.prog 3 [.v (.int .i64 0)] := TyI.mk' (i := Tryz.t3) (by kernel_rfl) (by decide) (by decide) rfl (by decide) ⟨⟨rfl, rfl⟩, trivial⟩
instance : TyI Tryz.prog 4 [.v (.bool false)] := TyI.mk' (i := Tryz.t4) (by kernel_rfl) (by decide) (by decide) rfl (by decide) ⟨⟨rfl, rfl⟩, trivial⟩
instance : TyI Tryz.prog 9 [.v (.string ⟨#[]⟩)] := TyI.mk' (i := Tryz.t9) (by kernel_rfl) (by decide) (by decide) rfl (by decide) ⟨⟨rfl, rfl⟩, trivial⟩
theorem sl27 : Sl Tryz.prog 27 3 := Tryz.underlying27
instance : SlI Tryz.prog 27 3 := ⟨Tryz.underlying27⟩
theorem sz27 : Sz Tryz.prog 27 1 := Tryz.sizeOf27
theorem ag27 : Ag Tryz.prog 27 false := Tryz.isAgg27
instance : TyI Tryz.prog 27 [.s 1 0 fun _ _ => .j] := TyI.mk' (i := Tryz.t27) (by kernel_rfl) (by decide) (by decide) rfl (by decide) ⟨⟨by decide, rfl, rfl⟩, trivial⟩
theorem sz303 : Sz Tryz.prog 303 4 := Tryz.sizeOf303
theorem ag303 : Ag Tryz.prog 303 true := Tryz.isAgg303
instance : TyI Tryz.prog 303 [.v (.int .i64 0), .v (.int .i64 0), .v (.int .i64 0), .v (.int .i64 0)] := TyI.mk' (i := Tryz.t303) (by kernel_rfl) (by decide) (by decide) rfl (by decide) ⟨⟨rfl, rfl⟩, ⟨rfl, rfl⟩, ⟨rfl, rfl⟩, ⟨rfl, rfl⟩, trivial⟩
theorem fl303_0 : Fld Tryz.prog 303 0 0 := Fld.mk' 0 _ Tryz.underlying303 rfl sz3
theorem fl303_1 : Fld Tryz.prog 303 1 1 := Fld.mk' 1 _ Tryz.underlying303 rfl sz3
theorem fl303_2 : Fld Tryz.prog 303 2 2 := Fld.mk' 2 _ Tryz.underlying303 rfl sz3
theorem fl303_3 : Fld Tryz.prog 303 3 3 := Fld.mk' 3 _ Tryz.underlying303 rfl sz3
instance : BdI Tryz.prog 303 [(0, 1), (1, 1), (2, 1), (3, 1)] := ⟨⟨_, Tryz.underlying303, fun w => by simp [Tryz.sizeOf3]⟩⟩
theorem sl201 : Sl Tryz.prog 201 303 := Tryz.underlying201
instance : SlI Tryz.prog 201 303 := ⟨Tryz.underlying201⟩
theorem sz201 : Sz Tryz.prog 201 1 := Tryz.sizeOf201
theorem ag201 : Ag Tryz.prog 201 false := Tryz.isAgg201
instance : TyI Tryz.prog 201 [.s 4 0 fun _ _ => .j] := TyI.mk' (i := Tryz.t201) (by kernel_rfl) (by decide) (by decide) rfl (by decide) ⟨⟨by decide, rfl, rfl⟩, trivial⟩
theorem sl22 : Sl Tryz.prog 22 201 := Tryz.underlying22
instance : SlI Tryz.prog 22 201 := ⟨Tryz.underlying22⟩
theorem sz22 : Sz Tryz.prog 22 1 := Tryz.sizeOf22
theorem ag22 : Ag Tryz.prog 22 false := Tryz.isAgg22
instance : TyI Tryz.prog 22 [.s 1 0 fun _ _ => .j] := TyI.mk' (i := Tryz.t22) (by kernel_rfl) (by decide) (by decide) rfl (by decide) ⟨⟨by decide, rfl, rfl⟩, trivial⟩
theorem sz203 : Sz Tryz.prog 203 2 := Tryz.sizeOf203
theorem ag203 : Ag Tryz.prog 203 true := Tryz.isAgg203
instance : TyI Tryz.prog 203 [.v (.int .i64 0), .s 1 0 fun _ _ => .j] := TyI.mk' (i := Tryz.t203) (by kernel_rfl) (by decide) (by decide) rfl (by decide) ⟨⟨rfl, rfl⟩, ⟨by decide, rfl, rfl⟩, trivial⟩
theorem fl203_0 : Fld Tryz.prog 203 0 0 := Fld.mk' 0 _ Tryz.underlying203 rfl sz3
theorem fl203_1 : Fld Tryz.prog 203 1 1 := Fld.mk' 1 _ Tryz.underlying203 rfl sz27
instance : BdI Tryz.prog 203 [(0, 1), (1, 1)] := ⟨⟨_, Tryz.underlying203, fun w => by simp [Tryz.sizeOf27, Tryz.sizeOf3]⟩⟩
theorem sz205 : Sz Tryz.prog 205 10 := Tryz.sizeOf205
theorem ag205 : Ag Tryz.prog 205 true := Tryz.isAgg205
instance : TyI Tryz.prog 205 [.v (.int .i64 0), .v (.int .i64 0), .v (.int .i64 0), .v (.int .i64 0), .v (.int .i64 0), .s 1 0 fun _ _ => .j, .s 1 0 fun _ _ => .j, .s 1 0 fun _ _ => .j, .v (.int .i64 0), .v (.int .i64 0)] := TyI.mk' (i := Tryz.t205) (by kernel_rfl) (by decide) (by decide) rfl (by decide) ⟨⟨rfl, rfl⟩, ⟨rfl, rfl⟩, ⟨rfl, rfl⟩, ⟨rfl, rfl⟩, ⟨rfl, rfl⟩, ⟨by decide, rfl, rfl⟩, ⟨by decide, rfl, rfl⟩, ⟨by decide, rfl, rfl⟩, ⟨rfl, rfl⟩, ⟨rfl, rfl⟩, trivial⟩
theorem fl205_0 : Fld Tryz.prog 205 0 0 := Fld.mk' 0 _ Tryz.underlying205 rfl sz3
theorem fl205_1 : Fld Tryz.prog 205 1 1 := Fld.mk' 1 _ Tryz.underlying205 rfl sz3
theorem fl205_2 : Fld Tryz.prog 205 2 2 := Fld.mk' 2 _ Tryz.underlying205 rfl sz3
theorem fl205_3 : Fld Tryz.prog 205 3 3 := Fld.mk' 3 _ Tryz.underlying205 rfl sz3
theorem fl205_4 : Fld Tryz.prog 205 4 4 := Fld.mk' 4 _ Tryz.underlying205 rfl sz203
theorem fl205_5 : Fld Tryz.prog 205 5 6 := Fld.mk' 5 _ Tryz.underlying205 rfl sz27
theorem fl205_6 : Fld Tryz.prog 205 6 7 := Fld.mk' 6 _ Tryz.underlying205 rfl sz27
theorem fl205_7 : Fld Tryz.prog 205 7 8 := Fld.mk' 7 _ Tryz.underlying205 rfl sz3
theorem fl205_8 : Fld Tryz.prog 205 8 9 := Fld.mk' 8 _ Tryz.underlying205 rfl sz3
instance : BdI Tryz.prog 205 [(0, 1), (1, 1), (2, 1), (3, 1), (4, 2), (6, 1), (7, 1), (8, 1), (9, 1)] := ⟨⟨_, Tryz.underlying205, fun w => by simp [Tryz.sizeOf203, Tryz.sizeOf27, Tryz.sizeOf3]⟩⟩
theorem sl23 : Sl Tryz.prog 23 205 := Tryz.underlying23
instance : SlI Tryz.prog 23 205 := ⟨Tryz.underlying23⟩
theorem sz23 : Sz Tryz.prog 23 1 := Tryz.sizeOf23
theorem ag23 : Ag Tryz.prog 23 false := Tryz.isAgg23
instance : TyI Tryz.prog 23 [.s 10 0 fun _ _ => .j] := TyI.mk' (i := Tryz.t23) (by kernel_rfl) (by decide) (by decide) rfl (by decide) ⟨⟨by decide, rfl, rfl⟩, trivial⟩
theorem sz217 : Sz Tryz.prog 217 5 := Tryz.sizeOf217
theorem ag217 : Ag Tryz.prog 217 true := Tryz.isAgg217
instance : TyI Tryz.prog 217 [.v (.int .i64 0), .v (.int .i64 0), .v (.int .i64 0), .v (.int .i64 0), .v (.int .i64 0)] := TyI.mk' (i := Tryz.t217) (by kernel_rfl) (by decide) (by decide) rfl (by decide) ⟨⟨rfl, rfl⟩, ⟨rfl, rfl⟩, ⟨rfl, rfl⟩, ⟨rfl, rfl⟩, ⟨rfl, rfl⟩, trivial⟩
theorem fl217_0 : Fld Tryz.prog 217 0 0 := Fld.mk' 0 _ Tryz.underlying217 rfl sz3
theorem fl217_1 : Fld Tryz.prog 217 1 1 := Fld.mk' 1 _ Tryz.underlying217 rfl sz3
theorem fl217_2 : Fld Tryz.prog 217 2 2 := Fld.mk' 2 _ Tryz.underlying217 rfl sz3
theorem fl217_3 : Fld Tryz.prog 217 3 3 := Fld.mk' 3 _ Tryz.underlying217 rfl sz3
theorem fl217_4 : Fld Tryz.prog 217 4 4 := Fld.mk' 4 _ Tryz.underlying217 rfl sz3
instance : BdI Tryz.prog 217 [(0, 1), (1, 1), (2, 1), (3, 1), (4, 1)] := ⟨⟨_, Tryz.underlying217, fun w => by simp [Tryz.sizeOf3]⟩⟩
theorem sl24 : Sl Tryz.prog 24 217 := Tryz.underlying24
instance : SlI Tryz.prog 24 217 := ⟨Tryz.underlying24⟩
theorem sz24 : Sz Tryz.prog 24 1 := Tryz.sizeOf24
theorem ag24 : Ag Tryz.prog 24 false := Tryz.isAgg24
instance : TyI Tryz.prog 24 [.s 5 0 fun _ _ => .j] := TyI.mk' (i := Tryz.t24) (by kernel_rfl) (by decide) (by decide) rfl (by decide) ⟨⟨by decide, rfl, rfl⟩, trivial⟩
theorem sz207 : Sz Tryz.prog 207 2 := Tryz.sizeOf207
theorem ag207 : Ag Tryz.prog 207 true := Tryz.isAgg207
instance : TyI Tryz.prog 207 [.v (.int .i64 0), .s 1 0 fun _ _ => .j] := TyI.mk' (i := Tryz.t207) (by kernel_rfl) (by decide) (by decide) rfl (by decide) ⟨⟨rfl, rfl⟩, ⟨by decide, rfl, rfl⟩, trivial⟩
theorem fl207_0 : Fld Tryz.prog 207 0 0 := Fld.mk' 0 _ Tryz.underlying207 rfl sz3
theorem fl207_1 : Fld Tryz.prog 207 1 1 := Fld.mk' 1 _ Tryz.underlying207 rfl sz27
instance : BdI Tryz.prog 207 [(0, 1), (1, 1)] := ⟨⟨_, Tryz.underlying207, fun w => by simp [Tryz.sizeOf27, Tryz.sizeOf3]⟩⟩
theorem sl25 : Sl Tryz.prog 25 207 := Tryz.underlying25
instance : SlI Tryz.prog 25 207 := ⟨Tryz.underlying25⟩
theorem sz25 : Sz Tryz.prog 25 1 := Tryz.sizeOf25
theorem ag25 : Ag Tryz.prog 25 false := Tryz.isAgg25
instance : TyI Tryz.prog 25 [.s 2 0 fun _ _ => .j] := TyI.mk' (i := Tryz.t25) (by kernel_rfl) (by decide) (by decide) rfl (by decide) ⟨⟨by decide, rfl, rfl⟩, trivial⟩
theorem sz209 : Sz Tryz.prog 209 2 := Tryz.sizeOf209
theorem ag209 : Ag Tryz.prog 209 true := Tryz.isAgg209
instance : TyI Tryz.prog 209 [.v (.int .i64 0), .s 1 0 fun _ _ => .j] := TyI.mk' (i := Tryz.t209) (by kernel_rfl) (by decide) (by decide) rfl (by decide) ⟨⟨rfl, rfl⟩, ⟨by decide, rfl, rfl⟩, trivial⟩
theorem fl209_0 : Fld Tryz.prog 209 0 0 := Fld.mk' 0 _ Tryz.underlying209 rfl sz3
theorem fl209_1 : Fld Tryz.prog 209 1 1 := Fld.mk' 1 _ Tryz.underlying209 rfl sz27
instance : BdI Tryz.prog 209 [(0, 1), (1, 1)] := ⟨⟨_, Tryz.underlying209, fun w => by simp [Tryz.sizeOf27, Tryz.sizeOf3]⟩⟩
theorem sl26 : Sl Tryz.prog 26 209 := Tryz.underlying26
instance : SlI Tryz.prog 26 209 := ⟨Tryz.underlying26⟩
theorem sz26 : Sz Tryz.prog 26 1 := Tryz.sizeOf26
theorem ag26 : Ag Tryz.prog 26 false := Tryz.isAgg26
instance : TyI Tryz.prog 26 [.s 2 0 fun _ _ => .j] := TyI.mk' (i := Tryz.t26) (by kernel_rfl) (by decide) (by decide) rfl (by decide) ⟨⟨by decide, rfl, rfl⟩, trivial⟩
theorem sz29 : Sz Tryz.prog 29 9 := Tryz.sizeOf29
theorem ag29 : Ag Tryz.prog 29 true := Tryz.isAgg29
instance : TyI Tryz.prog 29 [.v (.int .i64 0), .v (.int .i64 0), .s 1 0 fun _ _ => .j, .s 10 0 fun _ _ => .j, .s 5 0 fun _ _ => .j, .s 2 0 fun _ _ => .j, .s 2 0 fun _ _ => .j, .s 1 0 fun _ _ => .j, .s 1 0 fun _ _ => .j] := TyI.mk' (i := Tryz.t29) (by kernel_rfl) (by decide) (by decide) rfl (by decide) ⟨⟨rfl, rfl⟩, ⟨rfl, rfl⟩, ⟨by decide, rfl, rfl⟩, ⟨by decide, rfl, rfl⟩, ⟨by decide, rfl, rfl⟩, ⟨by decide, rfl, rfl⟩, ⟨by decide, rfl, rfl⟩, ⟨by decide, rfl, rfl⟩, ⟨by decide, rfl, rfl⟩, trivial⟩
theorem fl29_0 : Fld Tryz.prog 29 0 0 := Fld.mk' 0 _ Tryz.underlying29 rfl sz3
theorem fl29_1 : Fld Tryz.prog 29 1 1 := Fld.mk' 1 _ Tryz.underlying29 rfl sz3
theorem fl29_2 : Fld Tryz.prog 29 2 2 := Fld.mk' 2 _ Tryz.underlying29 rfl sz22
theorem fl29_3 : Fld Tryz.prog 29 3 3 := Fld.mk' 3 _ Tryz.underlying29 rfl sz23
theorem fl29_4 : Fld Tryz.prog 29 4 4 := Fld.mk' 4 _ Tryz.underlying29 rfl sz24
theorem fl29_5 : Fld Tryz.prog 29 5 5 := Fld.mk' 5 _ Tryz.underlying29 rfl sz25
theorem fl29_6 : Fld Tryz.prog 29 6 6 := Fld.mk' 6 _ Tryz.underlying29 rfl sz26
theorem fl29_7 : Fld Tryz.prog 29 7 7 := Fld.mk' 7 _ Tryz.underlying29 rfl sz27
theorem fl29_8 : Fld Tryz.prog 29 8 8 := Fld.mk' 8 _ Tryz.underlying29 rfl sz27
instance : BdI Tryz.prog 29 [(0, 1), (1, 1), (2, 1), (3, 1), (4, 1), (5, 1), (6, 1), (7, 1), (8, 1)] := ⟨⟨_, Tryz.underlying29, fun w => by simp [Tryz.sizeOf22, Tryz.sizeOf23, Tryz.sizeOf24, Tryz.sizeOf25, Tryz.sizeOf26, Tryz.sizeOf27, Tryz.sizeOf3]⟩⟩
theorem sz224 : Sz Tryz.prog 224 4 := Tryz.sizeOf224
theorem ag224 : Ag Tryz.prog 224 true := Tryz.isAgg224
instance : TyI Tryz.prog 224 [.v (.int .i64 0), .v (.int .i64 0), .v (.int .i64 0), .v (.int .i64 0)] := TyI.mk' (i := Tryz.t224) (by kernel_rfl) (by decide) (by decide) rfl (by decide) ⟨⟨rfl, rfl⟩, ⟨rfl, rfl⟩, ⟨rfl, rfl⟩, ⟨rfl, rfl⟩, trivial⟩
theorem fl224_0 : Fld Tryz.prog 224 0 0 := Fld.mk' 0 _ Tryz.underlying224 rfl sz3
theorem fl224_1 : Fld Tryz.prog 224 1 1 := Fld.mk' 1 _ Tryz.underlying224 rfl sz3
theorem fl224_2 : Fld Tryz.prog 224 2 2 := Fld.mk' 2 _ Tryz.underlying224 rfl sz3
theorem fl224_3 : Fld Tryz.prog 224 3 3 := Fld.mk' 3 _ Tryz.underlying224 rfl sz3
instance : BdI Tryz.prog 224 [(0, 1), (1, 1), (2, 1), (3, 1)] := ⟨⟨_, Tryz.underlying224, fun w => by simp [Tryz.sizeOf3]⟩⟩
theorem sl106 : Sl Tryz.prog 106 224 := Tryz.underlying106
instance : SlI Tryz.prog 106 224 := ⟨Tryz.underlying106⟩
theorem sz106 : Sz Tryz.prog 106 1 := Tryz.sizeOf106
theorem ag106 : Ag Tryz.prog 106 false := Tryz.isAgg106
instance : TyI Tryz.prog 106 [.s 4 0 fun _ _ => .j] := TyI.mk' (i := Tryz.t106) (by kernel_rfl) (by decide) (by decide) rfl (by decide) ⟨⟨by decide, rfl, rfl⟩, trivial⟩
theorem sl32 : Sl Tryz.prog 32 106 := Tryz.underlying32
instance : SlI Tryz.prog 32 106 := ⟨Tryz.underlying32⟩
theorem sz32 : Sz Tryz.prog 32 1 := Tryz.sizeOf32
theorem ag32 : Ag Tryz.prog 32 false := Tryz.isAgg32
instance : TyI Tryz.prog 32 [.s 1 0 fun _ _ => .j] := TyI.mk' (i := Tryz.t32) (by kernel_rfl) (by decide) (by decide) rfl (by decide) ⟨⟨by decide, rfl, rfl⟩, trivial⟩
theorem sz95 : Sz Tryz.prog 95 2 := Tryz.sizeOf95
theorem ag95 : Ag Tryz.prog 95 true := Tryz.isAgg95
instance : TyI Tryz.prog 95 [.v (.int .i64 0), .s 1 0 fun _ _ => .j] := TyI.mk' (i := Tryz.t95) (by kernel_rfl) (by decide) (by decide) rfl (by decide) ⟨⟨rfl, rfl⟩, ⟨by decide, rfl, rfl⟩, trivial⟩
theorem fl95_0 : Fld Tryz.prog 95 0 0 := Fld.mk' 0 _ Tryz.underlying95 rfl sz3
theorem fl95_1 : Fld Tryz.prog 95 1 1 := Fld.mk' 1 _ Tryz.underlying95 rfl sz27
instance : BdI Tryz.prog 95 [(0, 1), (1, 1)] := ⟨⟨_, Tryz.underlying95, fun w => by simp [Tryz.sizeOf27, Tryz.sizeOf3]⟩⟩
theorem sz97 : Sz Tryz.prog 97 10 := Tryz.sizeOf97
theorem ag97 : Ag Tryz.prog 97 true := Tryz.isAgg97
instance : TyI Tryz.prog 97 [.v (.int .i64 0), .v (.int .i64 0), .v (.int .i64 0), .v (.int .i64 0), .v (.int .i64 0), .s 1 0 fun _ _ => .j, .s 1 0 fun _ _ => .j, .s 1 0 fun _ _ => .j, .v (.int .i64 0), .v (.int .i64 0)] := TyI.mk' (i := Tryz.t97) (by kernel_rfl) (by decide) (by decide) rfl (by decide) ⟨⟨rfl, rfl⟩, ⟨rfl, rfl⟩, ⟨rfl, rfl⟩, ⟨rfl, rfl⟩, ⟨rfl, rfl⟩, ⟨by decide, rfl, rfl⟩, ⟨by decide, rfl, rfl⟩, ⟨by decide, rfl, rfl⟩, ⟨rfl, rfl⟩, ⟨rfl, rfl⟩, trivial⟩
theorem fl97_0 : Fld Tryz.prog 97 0 0 := Fld.mk' 0 _ Tryz.underlying97 rfl sz3
theorem fl97_1 : Fld Tryz.prog 97 1 1 := Fld.mk' 1 _ Tryz.underlying97 rfl sz3
theorem fl97_2 : Fld Tryz.prog 97 2 2 := Fld.mk' 2 _ Tryz.underlying97 rfl sz3
theorem fl97_3 : Fld Tryz.prog 97 3 3 := Fld.mk' 3 _ Tryz.underlying97 rfl sz3
theorem fl97_4 : Fld Tryz.prog 97 4 4 := Fld.mk' 4 _ Tryz.underlying97 rfl sz95
theorem fl97_5 : Fld Tryz.prog 97 5 6 := Fld.mk' 5 _ Tryz.underlying97 rfl sz27
theorem fl97_6 : Fld Tryz.prog 97 6 7 := Fld.mk' 6 _ Tryz.underlying97 rfl sz27
theorem fl97_7 : Fld Tryz.prog 97 7 8 := Fld.mk' 7 _ Tryz.underlying97 rfl sz3
theorem fl97_8 : Fld Tryz.prog 97 8 9 := Fld.mk' 8 _ Tryz.underlying97 rfl sz3
instance : BdI Tryz.prog 97 [(0, 1), (1, 1), (2, 1), (3, 1), (4, 2), (6, 1), (7, 1), (8, 1), (9, 1)] := ⟨⟨_, Tryz.underlying97, fun w => by simp [Tryz.sizeOf27, Tryz.sizeOf3, Tryz.sizeOf95]⟩⟩
theorem sl33 : Sl Tryz.prog 33 97 := Tryz.underlying33
instance : SlI Tryz.prog 33 97 := ⟨Tryz.underlying33⟩
theorem sz33 : Sz Tryz.prog 33 1 := Tryz.sizeOf33
theorem ag33 : Ag Tryz.prog 33 false := Tryz.isAgg33
instance : TyI Tryz.prog 33 [.s 10 0 fun _ _ => .j] := TyI.mk' (i := Tryz.t33) (by kernel_rfl) (by decide) (by decide) rfl (by decide) ⟨⟨by decide, rfl, rfl⟩, trivial⟩
theorem sz109 : Sz Tryz.prog 109 5 := Tryz.sizeOf109
theorem ag109 : Ag Tryz.prog 109 true := Tryz.isAgg109
instance : TyI Tryz.prog 109 [.v (.int .i64 0), .v (.int .i64 0), .v (.int .i64 0), .v (.int .i64 0), .v (.int .i64 0)] := TyI.mk' (i := Tryz.t109) (by kernel_rfl) (by decide) (by decide) rfl (by decide) ⟨⟨rfl, rfl⟩, ⟨rfl, rfl⟩, ⟨rfl, rfl⟩, ⟨rfl, rfl⟩, ⟨rfl, rfl⟩, trivial⟩
theorem fl109_0 : Fld Tryz.prog 109 0 0 := Fld.mk' 0 _ Tryz.underlying109 rfl sz3
theorem fl109_1 : Fld Tryz.prog 109 1 1 := Fld.mk' 1 _ Tryz.underlying109 rfl sz3
theorem fl109_2 : Fld Tryz.prog 109 2 2 := Fld.mk' 2 _ Tryz.underlying109 rfl sz3
theorem fl109_3 : Fld Tryz.prog 109 3 3 := Fld.mk' 3 _ Tryz.underlying109 rfl sz3
theorem fl109_4 : Fld Tryz.prog 109 4 4 := Fld.mk' 4 _ Tryz.underlying109 rfl sz3
instance : BdI Tryz.prog 109 [(0, 1), (1, 1), (2, 1), (3, 1), (4, 1)] := ⟨⟨_, Tryz.underlying109, fun w => by simp [Tryz.sizeOf3]⟩⟩
theorem sl34 : Sl Tryz.prog 34 109 := Tryz.underlying34
instance : SlI Tryz.prog 34 109 := ⟨Tryz.underlying34⟩
theorem sz34 : Sz Tryz.prog 34 1 := Tryz.sizeOf34
theorem ag34 : Ag Tryz.prog 34 false := Tryz.isAgg34
instance : TyI Tryz.prog 34 [.s 5 0 fun _ _ => .j] := TyI.mk' (i := Tryz.t34) (by kernel_rfl) (by decide) (by decide) rfl (by decide) ⟨⟨by decide, rfl, rfl⟩, trivial⟩
theorem sz128 : Sz Tryz.prog 128 2 := Tryz.sizeOf128
theorem ag128 : Ag Tryz.prog 128 true := Tryz.isAgg128
instance : TyI Tryz.prog 128 [.v (.int .i64 0), .s 1 0 fun _ _ => .j] := TyI.mk' (i := Tryz.t128) (by kernel_rfl) (by decide) (by decide) rfl (by decide) ⟨⟨rfl, rfl⟩, ⟨by decide, rfl, rfl⟩, trivial⟩
theorem fl128_0 : Fld Tryz.prog 128 0 0 := Fld.mk' 0 _ Tryz.underlying128 rfl sz3
theorem fl128_1 : Fld Tryz.prog 128 1 1 := Fld.mk' 1 _ Tryz.underlying128 rfl sz27
instance : BdI Tryz.prog 128 [(0, 1), (1, 1)] := ⟨⟨_, Tryz.underlying128, fun w => by simp [Tryz.sizeOf27, Tryz.sizeOf3]⟩⟩
theorem sl35 : Sl Tryz.prog 35 128 := Tryz.underlying35
instance : SlI Tryz.prog 35 128 := ⟨Tryz.underlying35⟩
theorem sz35 : Sz Tryz.prog 35 1 := Tryz.sizeOf35
theorem ag35 : Ag Tryz.prog 35 false := Tryz.isAgg35
instance : TyI Tryz.prog 35 [.s 2 0 fun _ _ => .j] := TyI.mk' (i := Tryz.t35) (by kernel_rfl) (by decide) (by decide) rfl (by decide) ⟨⟨by decide, rfl, rfl⟩, trivial⟩
theorem sz130 : Sz Tryz.prog 130 2 := Tryz.sizeOf130
theorem ag130 : Ag Tryz.prog 130 true := Tryz.isAgg130
instance : TyI Tryz.prog 130 [.v (.int .i64 0), .s 1 0 fun _ _ => .j] := TyI.mk' (i := Tryz.t130) (by kernel_rfl) (by decide) (by decide) rfl (by decide) ⟨⟨rfl, rfl⟩, ⟨by decide, rfl, rfl⟩, trivial⟩
theorem fl130_0 : Fld Tryz.prog 130 0 0 := Fld.mk' 0 _ Tryz.underlying130 rfl sz3
theorem fl130_1 : Fld Tryz.prog 130 1 1 := Fld.mk' 1 _ Tryz.underlying130 rfl sz27
instance : BdI Tryz.prog 130 [(0, 1), (1, 1)] := ⟨⟨_, Tryz.underlying130, fun w => by simp [Tryz.sizeOf27, Tryz.sizeOf3]⟩⟩
theorem sl36 : Sl Tryz.prog 36 130 := Tryz.underlying36
instance : SlI Tryz.prog 36 130 := ⟨Tryz.underlying36⟩
theorem sz36 : Sz Tryz.prog 36 1 := Tryz.sizeOf36
theorem ag36 : Ag Tryz.prog 36 false := Tryz.isAgg36
instance : TyI Tryz.prog 36 [.s 2 0 fun _ _ => .j] := TyI.mk' (i := Tryz.t36) (by kernel_rfl) (by decide) (by decide) rfl (by decide) ⟨⟨by decide, rfl, rfl⟩, trivial⟩
theorem sz38 : Sz Tryz.prog 38 9 := Tryz.sizeOf38
theorem ag38 : Ag Tryz.prog 38 true := Tryz.isAgg38
instance : TyI Tryz.prog 38 [.v (.int .i64 0), .v (.int .i64 0), .s 1 0 fun _ _ => .j, .s 10 0 fun _ _ => .j, .s 5 0 fun _ _ => .j, .s 2 0 fun _ _ => .j, .s 2 0 fun _ _ => .j, .s 1 0 fun _ _ => .j, .s 1 0 fun _ _ => .j] := TyI.mk' (i := Tryz.t38) (by kernel_rfl) (by decide) (by decide) rfl (by decide) ⟨⟨rfl, rfl⟩, ⟨rfl, rfl⟩, ⟨by decide, rfl, rfl⟩, ⟨by decide, rfl, rfl⟩, ⟨by decide, rfl, rfl⟩, ⟨by decide, rfl, rfl⟩, ⟨by decide, rfl, rfl⟩, ⟨by decide, rfl, rfl⟩, ⟨by decide, rfl, rfl⟩, trivial⟩
theorem fl38_0 : Fld Tryz.prog 38 0 0 := Fld.mk' 0 _ Tryz.underlying38 rfl sz3
theorem fl38_1 : Fld Tryz.prog 38 1 1 := Fld.mk' 1 _ Tryz.underlying38 rfl sz3
theorem fl38_2 : Fld Tryz.prog 38 2 2 := Fld.mk' 2 _ Tryz.underlying38 rfl sz32
theorem fl38_3 : Fld Tryz.prog 38 3 3 := Fld.mk' 3 _ Tryz.underlying38 rfl sz33
theorem fl38_4 : Fld Tryz.prog 38 4 4 := Fld.mk' 4 _ Tryz.underlying38 rfl sz34
theorem fl38_5 : Fld Tryz.prog 38 5 5 := Fld.mk' 5 _ Tryz.underlying38 rfl sz35
theorem fl38_6 : Fld Tryz.prog 38 6 6 := Fld.mk' 6 _ Tryz.underlying38 rfl sz36
theorem fl38_7 : Fld Tryz.prog 38 7 7 := Fld.mk' 7 _ Tryz.underlying38 rfl sz27
theorem fl38_8 : Fld Tryz.prog 38 8 8 := Fld.mk' 8 _ Tryz.underlying38 rfl sz27
instance : BdI Tryz.prog 38 [(0, 1), (1, 1), (2, 1), (3, 1), (4, 1), (5, 1), (6, 1), (7, 1), (8, 1)] := ⟨⟨_, Tryz.underlying38, fun w => by simp [Tryz.sizeOf27, Tryz.sizeOf3, Tryz.sizeOf32, Tryz.sizeOf33, Tryz.sizeOf34, Tryz.sizeOf35, Tryz.sizeOf36]⟩⟩
theorem eq224 (x0 : Int) (x1 : Int) (x2 : Int) (x3 : Int) (y0 : Int) (y1 : Int) (y2 : Int) (y3 : Int) (x y : Operand) (w : World) : (do eqGuard .eql 224 x y (.agg [iv x0, iv x1, iv x2, iv x3].toArray) (.agg [iv y0, iv y1, iv y2, iv y3].toArray); binOp .eql 224 (.agg [iv x0, iv x1, iv x2, iv x3].toArray) (.agg [iv y0, iv y1, iv y2, iv y3].toArray)).run Tryz.prog w = .ok (.bool (decide (x0 = y0 ∧ x1 = y1 ∧ x2 = y2 ∧ x3 = y3))) w := by
 have hg : ∀ w, (eqGuard .eql 224 x y (.agg [iv x0, iv x1, iv x2, iv x3].toArray) (.agg [iv y0, iv y1, iv y2, iv y3].toArray)).run Tryz.prog w = .ok () w := by
  intro w
  have : Tryz.prog.eqGuardType Tryz.prog.depth 224 = false := by kernel_rfl
  simp [eqGuard, this]
 have u3 := Tryz.underlying3
 have a3 := Tryz.isAgg3
 have z3 := Tryz.sizeOf3
 have hS : Tryz.prog.underlying 224 = some (.struct (Tryz.prog.fieldsOf 224)) := by kernel_rfl
 have hp : Tryz.prog.stoodInHeld 224 = false := by kernel_rfl
 simp only [Sem.run_bind, hg, Result.andThen]
 rw [run_eql_struct, show (10000 : Nat) = 9999 + 1 from rfl, run_equalIn_agg w 9999 224 _ _ hS hp]
 simp only [Program.fieldsOf, Tryz.underlying224]
 go_simp
 by_cases h0 : x0 = y0 <;> by_cases h1 : x1 = y1 <;> by_cases h2 : x2 = y2 <;> by_cases h3 : x3 = y3 <;> simp [h0, h1, h2, h3]
end Go.Proofs.YtimmbmphfgnelaaGreat.VM
