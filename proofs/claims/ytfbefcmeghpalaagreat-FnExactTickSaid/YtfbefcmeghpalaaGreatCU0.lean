/- Contracts of functions of the program. No conditions beyond those that each states. -/
import Derived.Test.YtfbefcmeghpalaaGreatVmD
import Derived.Test.YtfbefcmeghpalaaGreatProg
set_option linter.all false
set_option maxHeartbeats 8000000
set_option maxRecDepth 10000
namespace Go.Proofs.YtfbefcmeghpalaaGreat.VM
open Go Go.RowKit Go.Proofs
theorem sz3 : Sz Tryz.prog 3 1 := Tryz.sizeOf3
theorem ag3 : Ag Tryz.prog 3 false := Tryz.isAgg3
instance : TyI Tryz.prog 3 [.v (.int .i64 0)] := TyI.mk' (i := Tryz.t3) (by kernel_rfl) (by decide) (by decide) rfl (by decide) ⟨⟨rfl, rfl⟩, trivial⟩
theorem sz187 : Sz Tryz.prog 187 4 := Tryz.sizeOf187
theorem ag187 : Ag Tryz.prog 187 true := Tryz.isAgg187
instance : TyI Tryz.prog 187 [.v (.int .i64 0), .v (.int .i64 0), .v (.int .i64 0), .v (.int .i64 0)] := TyI.mk' (i := Tryz.t187) (by kernel_rfl) (by decide) (by decide) rfl (by decide) ⟨⟨rfl, rfl⟩, ⟨rfl, rfl⟩, ⟨rfl, rfl⟩, ⟨rfl, rfl⟩, trivial⟩
theorem fl187_0 : Fld Tryz.prog 187 0 0 := Fld.mk' 0 _ Tryz.underlying187 rfl sz3
theorem fl187_1 : Fld Tryz.prog 187 1 1 := Fld.mk' 1 _ Tryz.underlying187 rfl sz3
theorem fl187_2 : Fld Tryz.prog 187 2 2 := Fld.mk' 2 _ Tryz.underlying187 rfl sz3
theorem fl187_3 : Fld Tryz.prog 187 3 3 := Fld.mk' 3 _ Tryz.underlying187 rfl sz3
instance : BdI Tryz.prog 187 [(0, 1), (1, 1), (2, 1), (3, 1)] := ⟨⟨_, Tryz.underlying187, fun w => by simp [Tryz.sizeOf3]⟩⟩
theorem sl65 : Sl Tryz.prog 65 187 := Tryz.underlying65
instance : SlI Tryz.prog 65 187 := ⟨Tryz.underlying65⟩
theorem sz65 : Sz Tryz.prog 65 1 := Tryz.sizeOf65
theorem ag65 : Ag Tryz.prog 65 false := Tryz.isAgg65
instance : TyI Tryz.prog 65 [.s 4 0 fun _ _ => .j] := TyI.mk' (i := Tryz.t65) (by kernel_rfl) (by decide) (by decide) rfl (by decide) ⟨⟨by decide, rfl, rfl⟩, trivial⟩
theorem sl24 : Sl Tryz.prog 24 65 := Tryz.underlying24
instance : SlI Tryz.prog 24 65 := ⟨Tryz.underlying24⟩
theorem sz24 : Sz Tryz.prog 24 1 := Tryz.sizeOf24
theorem ag24 : Ag Tryz.prog 24 false := Tryz.isAgg24
instance : TyI Tryz.prog 24 [.s 1 0 fun _ _ => .j] := TyI.mk' (i := Tryz.t24) (by kernel_rfl) (by decide) (by decide) rfl (by decide) ⟨⟨by decide, rfl, rfl⟩, trivial⟩
theorem sl29 : Sl Tryz.prog 29 3 := Tryz.underlying29
instance : SlI Tryz.prog 29 3 := ⟨Tryz.underlying29⟩
theorem sz29 : Sz Tryz.prog 29 1 := Tryz.sizeOf29
theorem ag29 : Ag Tryz.prog 29 false := Tryz.isAgg29
instance : TyI Tryz.prog 29 [.s 1 0 fun _ _ => .j] := TyI.mk' (i := Tryz.t29) (by kernel_rfl) (by decide) (by decide) rfl (by decide) ⟨⟨by decide, rfl, rfl⟩, trivial⟩
theorem sz70 : Sz Tryz.prog 70 2 := Tryz.sizeOf70
theorem ag70 : Ag Tryz.prog 70 true := Tryz.isAgg70
instance : TyI Tryz.prog 70 [.v (.int .i64 0), .s 1 0 fun _ _ => .j] := TyI.mk' (i := Tryz.t70) (by kernel_rfl) (by decide) (by decide) rfl (by decide) ⟨⟨rfl, rfl⟩, ⟨by decide, rfl, rfl⟩, trivial⟩
theorem fl70_0 : Fld Tryz.prog 70 0 0 := Fld.mk' 0 _ Tryz.underlying70 rfl sz3
theorem fl70_1 : Fld Tryz.prog 70 1 1 := Fld.mk' 1 _ Tryz.underlying70 rfl sz29
instance : BdI Tryz.prog 70 [(0, 1), (1, 1)] := ⟨⟨_, Tryz.underlying70, fun w => by simp [Tryz.sizeOf29, Tryz.sizeOf3]⟩⟩
theorem sz72 : Sz Tryz.prog 72 10 := Tryz.sizeOf72
theorem ag72 : Ag Tryz.prog 72 true := Tryz.isAgg72
instance : TyI Tryz.prog 72 [.v (.int .i64 0), .v (.int .i64 0), .v (.int .i64 0), .v (.int .i64 0), .v (.int .i64 0), .s 1 0 fun _ _ => .j, .s 1 0 fun _ _ => .j, .s 1 0 fun _ _ => .j, .v (.int .i64 0), .v (.int .i64 0)] := TyI.mk' (i := Tryz.t72) (by kernel_rfl) (by decide) (by decide) rfl (by decide) ⟨⟨rfl, rfl⟩, ⟨rfl, rfl⟩, ⟨rfl, rfl⟩, ⟨rfl, rfl⟩, ⟨rfl, rfl⟩, ⟨by decide, rfl, rfl⟩, ⟨by decide, rfl, rfl⟩, ⟨by decide, rfl, rfl⟩, ⟨rfl, rfl⟩, ⟨rfl, rfl⟩, trivial⟩
theorem fl72_0 : Fld Tryz.prog 72 0 0 := Fld.mk' 0 _ Tryz.underlying72 rfl sz3
theorem fl72_1 : Fld Tryz.prog 72 1 1 := Fld.mk' 1 _ Tryz.underlying72 rfl sz3
theorem fl72_2 : Fld Tryz.prog 72 2 2 := Fld.mk' 2 _ Tryz.underlying72 rfl sz3
theorem fl72_3 : Fld Tryz.prog 72 3 3 := Fld.mk' 3 _ Tryz.underlying72 rfl sz3
theorem fl72_4 : Fld Tryz.prog 72 4 4 := Fld.mk' 4 _ Tryz.underlying72 rfl sz70
theorem fl72_5 : Fld Tryz.prog 72 5 6 := Fld.mk' 5 _ Tryz.underlying72 rfl sz29
theorem fl72_6 : Fld Tryz.prog 72 6 7 := Fld.mk' 6 _ Tryz.underlying72 rfl sz29
theorem fl72_7 : Fld Tryz.prog 72 7 8 := Fld.mk' 7 _ Tryz.underlying72 rfl sz3
theorem fl72_8 : Fld Tryz.prog 72 8 9 := Fld.mk' 8 _ Tryz.underlying72 rfl sz3
theorem sl25 : Sl Tryz.prog 25 72 := Tryz.underlying25
instance : SlI Tryz.prog 25 72 := ⟨Tryz.underlying25⟩
theorem sz25 : Sz Tryz.prog 25 1 := Tryz.sizeOf25
theorem ag25 : Ag Tryz.prog 25 false := Tryz.isAgg25
instance : TyI Tryz.prog 25 [.s 10 0 fun _ _ => .j] := TyI.mk' (i := Tryz.t25) (by kernel_rfl) (by decide) (by decide) rfl (by decide) ⟨⟨by decide, rfl, rfl⟩, trivial⟩
theorem sz130 : Sz Tryz.prog 130 5 := Tryz.sizeOf130
theorem ag130 : Ag Tryz.prog 130 true := Tryz.isAgg130
instance : TyI Tryz.prog 130 [.v (.int .i64 0), .v (.int .i64 0), .v (.int .i64 0), .v (.int .i64 0), .v (.int .i64 0)] := TyI.mk' (i := Tryz.t130) (by kernel_rfl) (by decide) (by decide) rfl (by decide) ⟨⟨rfl, rfl⟩, ⟨rfl, rfl⟩, ⟨rfl, rfl⟩, ⟨rfl, rfl⟩, ⟨rfl, rfl⟩, trivial⟩
theorem fl130_0 : Fld Tryz.prog 130 0 0 := Fld.mk' 0 _ Tryz.underlying130 rfl sz3
theorem fl130_1 : Fld Tryz.prog 130 1 1 := Fld.mk' 1 _ Tryz.underlying130 rfl sz3
theorem fl130_2 : Fld Tryz.prog 130 2 2 := Fld.mk' 2 _ Tryz.underlying130 rfl sz3
theorem fl130_3 : Fld Tryz.prog 130 3 3 := Fld.mk' 3 _ Tryz.underlying130 rfl sz3
theorem fl130_4 : Fld Tryz.prog 130 4 4 := Fld.mk' 4 _ Tryz.underlying130 rfl sz3
theorem sl26 : Sl Tryz.prog 26 130 := Tryz.underlying26
instance : SlI Tryz.prog 26 130 := ⟨Tryz.underlying26⟩
theorem sz26 : Sz Tryz.prog 26 1 := Tryz.sizeOf26
theorem ag26 : Ag Tryz.prog 26 false := Tryz.isAgg26
instance : TyI Tryz.prog 26 [.s 5 0 fun _ _ => .j] := TyI.mk' (i := Tryz.t26) (by kernel_rfl) (by decide) (by decide) rfl (by decide) ⟨⟨by decide, rfl, rfl⟩, trivial⟩
theorem sz153 : Sz Tryz.prog 153 2 := Tryz.sizeOf153
theorem ag153 : Ag Tryz.prog 153 true := Tryz.isAgg153
instance : TyI Tryz.prog 153 [.v (.int .i64 0), .s 1 0 fun _ _ => .j] := TyI.mk' (i := Tryz.t153) (by kernel_rfl) (by decide) (by decide) rfl (by decide) ⟨⟨rfl, rfl⟩, ⟨by decide, rfl, rfl⟩, trivial⟩
theorem fl153_0 : Fld Tryz.prog 153 0 0 := Fld.mk' 0 _ Tryz.underlying153 rfl sz3
theorem fl153_1 : Fld Tryz.prog 153 1 1 := Fld.mk' 1 _ Tryz.underlying153 rfl sz29
instance : BdI Tryz.prog 153 [(0, 1), (1, 1)] := ⟨⟨_, Tryz.underlying153, fun w => by simp [Tryz.sizeOf29, Tryz.sizeOf3]⟩⟩
theorem sl27 : Sl Tryz.prog 27 153 := Tryz.underlying27
instance : SlI Tryz.prog 27 153 := ⟨Tryz.underlying27⟩
theorem sz27 : Sz Tryz.prog 27 1 := Tryz.sizeOf27
theorem ag27 : Ag Tryz.prog 27 false := Tryz.isAgg27
instance : TyI Tryz.prog 27 [.s 2 0 fun _ _ => .j] := TyI.mk' (i := Tryz.t27) (by kernel_rfl) (by decide) (by decide) rfl (by decide) ⟨⟨by decide, rfl, rfl⟩, trivial⟩
theorem sz155 : Sz Tryz.prog 155 2 := Tryz.sizeOf155
theorem ag155 : Ag Tryz.prog 155 true := Tryz.isAgg155
instance : TyI Tryz.prog 155 [.v (.int .i64 0), .s 1 0 fun _ _ => .j] := TyI.mk' (i := Tryz.t155) (by kernel_rfl) (by decide) (by decide) rfl (by decide) ⟨⟨rfl, rfl⟩, ⟨by decide, rfl, rfl⟩, trivial⟩
theorem fl155_0 : Fld Tryz.prog 155 0 0 := Fld.mk' 0 _ Tryz.underlying155 rfl sz3
theorem fl155_1 : Fld Tryz.prog 155 1 1 := Fld.mk' 1 _ Tryz.underlying155 rfl sz29
instance : BdI Tryz.prog 155 [(0, 1), (1, 1)] := ⟨⟨_, Tryz.underlying155, fun w => by simp [Tryz.sizeOf29, Tryz.sizeOf3]⟩⟩
theorem sl28 : Sl Tryz.prog 28 155 := Tryz.underlying28
instance : SlI Tryz.prog 28 155 := ⟨Tryz.underlying28⟩
theorem sz28 : Sz Tryz.prog 28 1 := Tryz.sizeOf28
theorem ag28 : Ag Tryz.prog 28 false := Tryz.isAgg28
instance : TyI Tryz.prog 28 [.s 2 0 fun _ _ => .j] := TyI.mk' (i := Tryz.t28) (by kernel_rfl) (by decide) (by decide) rfl (by decide) ⟨⟨by decide, rfl, rfl⟩, trivial⟩
theorem sz31 : Sz Tryz.prog 31 9 := Tryz.sizeOf31
theorem ag31 : Ag Tryz.prog 31 true := Tryz.isAgg31
instance : TyI Tryz.prog 31 [.v (.int .i64 0), .v (.int .i64 0), .s 1 0 fun _ _ => .j, .s 10 0 fun _ _ => .j, .s 5 0 fun _ _ => .j, .s 2 0 fun _ _ => .j, .s 2 0 fun _ _ => .j, .s 1 0 fun _ _ => .j, .s 1 0 fun _ _ => .j] := TyI.mk' (i := Tryz.t31) (by kernel_rfl) (by decide) (by decide) rfl (by decide) ⟨⟨rfl, rfl⟩, ⟨rfl, rfl⟩, ⟨by decide, rfl, rfl⟩, ⟨by decide, rfl, rfl⟩, ⟨by decide, rfl, rfl⟩, ⟨by decide, rfl, rfl⟩, ⟨by decide, rfl, rfl⟩, ⟨by decide, rfl, rfl⟩, ⟨by decide, rfl, rfl⟩, trivial⟩
theorem fl31_0 : Fld Tryz.prog 31 0 0 := Fld.mk' 0 _ Tryz.underlying31 rfl sz3
theorem fl31_1 : Fld Tryz.prog 31 1 1 := Fld.mk' 1 _ Tryz.underlying31 rfl sz3
theorem fl31_2 : Fld Tryz.prog 31 2 2 := Fld.mk' 2 _ Tryz.underlying31 rfl sz24
theorem fl31_3 : Fld Tryz.prog 31 3 3 := Fld.mk' 3 _ Tryz.underlying31 rfl sz25
theorem fl31_4 : Fld Tryz.prog 31 4 4 := Fld.mk' 4 _ Tryz.underlying31 rfl sz26
theorem fl31_5 : Fld Tryz.prog 31 5 5 := Fld.mk' 5 _ Tryz.underlying31 rfl sz27
theorem fl31_6 : Fld Tryz.prog 31 6 6 := Fld.mk' 6 _ Tryz.underlying31 rfl sz28
theorem fl31_7 : Fld Tryz.prog 31 7 7 := Fld.mk' 7 _ Tryz.underlying31 rfl sz29
theorem fl31_8 : Fld Tryz.prog 31 8 8 := Fld.mk' 8 _ Tryz.underlying31 rfl sz29
instance : BdI Tryz.prog 31 [(0, 1), (1, 1), (2, 1), (3, 1), (4, 1), (5, 1), (6, 1), (7, 1), (8, 1)] := ⟨⟨_, Tryz.underlying31, fun w => by simp [Tryz.sizeOf24, Tryz.sizeOf25, Tryz.sizeOf26, Tryz.sizeOf27, Tryz.sizeOf28, Tryz.sizeOf29, Tryz.sizeOf3]⟩⟩
theorem sz206 : Sz Tryz.prog 206 4 := Tryz.sizeOf206
theorem ag206 : Ag Tryz.prog 206 true := Tryz.isAgg206
instance : TyI Tryz.prog 206 [.v (.int .i64 0), .v (.int .i64 0), .v (.int .i64 0), .v (.int .i64 0)] := TyI.mk' (i := Tryz.t206) (by kernel_rfl) (by decide) (by decide) rfl (by decide) ⟨⟨rfl, rfl⟩, ⟨rfl, rfl⟩, ⟨rfl, rfl⟩, ⟨rfl, rfl⟩, trivial⟩
theorem fl206_0 : Fld Tryz.prog 206 0 0 := Fld.mk' 0 _ Tryz.underlying206 rfl sz3
theorem fl206_1 : Fld Tryz.prog 206 1 1 := Fld.mk' 1 _ Tryz.underlying206 rfl sz3
theorem fl206_2 : Fld Tryz.prog 206 2 2 := Fld.mk' 2 _ Tryz.underlying206 rfl sz3
theorem fl206_3 : Fld Tryz.prog 206 3 3 := Fld.mk' 3 _ Tryz.underlying206 rfl sz3
theorem sl135 : Sl Tryz.prog 135 206 := Tryz.underlying135
theorem sz135 : Sz Tryz.prog 135 1 := Tryz.sizeOf135
theorem ag135 : Ag Tryz.prog 135 false := Tryz.isAgg135
theorem sl35 : Sl Tryz.prog 35 135 := Tryz.underlying35
theorem sz35 : Sz Tryz.prog 35 1 := Tryz.sizeOf35
theorem ag35 : Ag Tryz.prog 35 false := Tryz.isAgg35
theorem sz163 : Sz Tryz.prog 163 2 := Tryz.sizeOf163
theorem ag163 : Ag Tryz.prog 163 true := Tryz.isAgg163
instance : TyI Tryz.prog 163 [.v (.int .i64 0), .s 1 0 fun _ _ => .j] := TyI.mk' (i := Tryz.t163) (by kernel_rfl) (by decide) (by decide) rfl (by decide) ⟨⟨rfl, rfl⟩, ⟨by decide, rfl, rfl⟩, trivial⟩
theorem fl163_0 : Fld Tryz.prog 163 0 0 := Fld.mk' 0 _ Tryz.underlying163 rfl sz3
theorem fl163_1 : Fld Tryz.prog 163 1 1 := Fld.mk' 1 _ Tryz.underlying163 rfl sz29
theorem sz165 : Sz Tryz.prog 165 10 := Tryz.sizeOf165
theorem ag165 : Ag Tryz.prog 165 true := Tryz.isAgg165
instance : TyI Tryz.prog 165 [.v (.int .i64 0), .v (.int .i64 0), .v (.int .i64 0), .v (.int .i64 0), .v (.int .i64 0), .s 1 0 fun _ _ => .j, .s 1 0 fun _ _ => .j, .s 1 0 fun _ _ => .j, .v (.int .i64 0), .v (.int .i64 0)] := TyI.mk' (i := Tryz.t165) (by kernel_rfl) (by decide) (by decide) rfl (by decide) ⟨⟨rfl, rfl⟩, ⟨rfl, rfl⟩, ⟨rfl, rfl⟩, ⟨rfl, rfl⟩, ⟨rfl, rfl⟩, ⟨by decide, rfl, rfl⟩, ⟨by decide, rfl, rfl⟩, ⟨by decide, rfl, rfl⟩, ⟨rfl, rfl⟩, ⟨rfl, rfl⟩, trivial⟩
theorem fl165_0 : Fld Tryz.prog 165 0 0 := Fld.mk' 0 _ Tryz.underlying165 rfl sz3
theorem fl165_1 : Fld Tryz.prog 165 1 1 := Fld.mk' 1 _ Tryz.underlying165 rfl sz3
theorem fl165_2 : Fld Tryz.prog 165 2 2 := Fld.mk' 2 _ Tryz.underlying165 rfl sz3
theorem fl165_3 : Fld Tryz.prog 165 3 3 := Fld.mk' 3 _ Tryz.underlying165 rfl sz3
theorem fl165_4 : Fld Tryz.prog 165 4 4 := Fld.mk' 4 _ Tryz.underlying165 rfl sz163
theorem fl165_5 : Fld Tryz.prog 165 5 6 := Fld.mk' 5 _ Tryz.underlying165 rfl sz29
theorem fl165_6 : Fld Tryz.prog 165 6 7 := Fld.mk' 6 _ Tryz.underlying165 rfl sz29
theorem fl165_7 : Fld Tryz.prog 165 7 8 := Fld.mk' 7 _ Tryz.underlying165 rfl sz3
theorem fl165_8 : Fld Tryz.prog 165 8 9 := Fld.mk' 8 _ Tryz.underlying165 rfl sz3
theorem sl36 : Sl Tryz.prog 36 165 := Tryz.underlying36
theorem sz36 : Sz Tryz.prog 36 1 := Tryz.sizeOf36
theorem ag36 : Ag Tryz.prog 36 false := Tryz.isAgg36
theorem sz174 : Sz Tryz.prog 174 5 := Tryz.sizeOf174
theorem ag174 : Ag Tryz.prog 174 true := Tryz.isAgg174
instance : TyI Tryz.prog 174 [.v (.int .i64 0), .v (.int .i64 0), .v (.int .i64 0), .v (.int .i64 0), .v (.int .i64 0)] := TyI.mk' (i := Tryz.t174) (by kernel_rfl) (by decide) (by decide) rfl (by decide) ⟨⟨rfl, rfl⟩, ⟨rfl, rfl⟩, ⟨rfl, rfl⟩, ⟨rfl, rfl⟩, ⟨rfl, rfl⟩, trivial⟩
theorem fl174_0 : Fld Tryz.prog 174 0 0 := Fld.mk' 0 _ Tryz.underlying174 rfl sz3
theorem fl174_1 : Fld Tryz.prog 174 1 1 := Fld.mk' 1 _ Tryz.underlying174 rfl sz3
theorem fl174_2 : Fld Tryz.prog 174 2 2 := Fld.mk' 2 _ Tryz.underlying174 rfl sz3
theorem fl174_3 : Fld Tryz.prog 174 3 3 := Fld.mk' 3 _ Tryz.underlying174 rfl sz3
theorem fl174_4 : Fld Tryz.prog 174 4 4 := Fld.mk' 4 _ Tryz.underlying174 rfl sz3
theorem sl37 : Sl Tryz.prog 37 174 := Tryz.underlying37
theorem sz37 : Sz Tryz.prog 37 1 := Tryz.sizeOf37
theorem ag37 : Ag Tryz.prog 37 false := Tryz.isAgg37
theorem sz167 : Sz Tryz.prog 167 2 := Tryz.sizeOf167
theorem ag167 : Ag Tryz.prog 167 true := Tryz.isAgg167
instance : TyI Tryz.prog 167 [.v (.int .i64 0), .s 1 0 fun _ _ => .j] := TyI.mk' (i := Tryz.t167) (by kernel_rfl) (by decide) (by decide) rfl (by decide) ⟨⟨rfl, rfl⟩, ⟨by decide, rfl, rfl⟩, trivial⟩
theorem fl167_0 : Fld Tryz.prog 167 0 0 := Fld.mk' 0 _ Tryz.underlying167 rfl sz3
theorem fl167_1 : Fld Tryz.prog 167 1 1 := Fld.mk' 1 _ Tryz.underlying167 rfl sz29
theorem sl38 : Sl Tryz.prog 38 167 := Tryz.underlying38
theorem sz38 : Sz Tryz.prog 38 1 := Tryz.sizeOf38
theorem ag38 : Ag Tryz.prog 38 false := Tryz.isAgg38
theorem sz169 : Sz Tryz.prog 169 2 := Tryz.sizeOf169
theorem ag169 : Ag Tryz.prog 169 true := Tryz.isAgg169
instance : TyI Tryz.prog 169 [.v (.int .i64 0), .s 1 0 fun _ _ => .j] := TyI.mk' (i := Tryz.t169) (by kernel_rfl) (by decide) (by decide) rfl (by decide) ⟨⟨rfl, rfl⟩, ⟨by decide, rfl, rfl⟩, trivial⟩
theorem fl169_0 : Fld Tryz.prog 169 0 0 := Fld.mk' 0 _ Tryz.underlying169 rfl sz3
theorem fl169_1 : Fld Tryz.prog 169 1 1 := Fld.mk' 1 _ Tryz.underlying169 rfl sz29
theorem sl39 : Sl Tryz.prog 39 169 := Tryz.underlying39
theorem sz39 : Sz Tryz.prog 39 1 := Tryz.sizeOf39
theorem ag39 : Ag Tryz.prog 39 false := Tryz.isAgg39
theorem sz41 : Sz Tryz.prog 41 9 := Tryz.sizeOf41
theorem ag41 : Ag Tryz.prog 41 true := Tryz.isAgg41
instance : TyI Tryz.prog 41 [.v (.int .i64 0), .v (.int .i64 0), .s 1 0 fun _ _ => .j, .s 10 0 fun _ _ => .j, .s 5 0 fun _ _ => .j, .s 2 0 fun _ _ => .j, .s 2 0 fun _ _ => .j, .s 1 0 fun _ _ => .j, .s 1 0 fun _ _ => .j] := TyI.mk' (i := Tryz.t41) (by kernel_rfl) (by decide) (by decide) rfl (by decide) ⟨⟨rfl, rfl⟩, ⟨rfl, rfl⟩, ⟨by decide, rfl, rfl⟩, ⟨by decide, rfl, rfl⟩, ⟨by decide, rfl, rfl⟩, ⟨by decide, rfl, rfl⟩, ⟨by decide, rfl, rfl⟩, ⟨by decide, rfl, rfl⟩, ⟨by decide, rfl, rfl⟩, trivial⟩
theorem fl41_0 : Fld Tryz.prog 41 0 0 := Fld.mk' 0 _ Tryz.underlying41 rfl sz3
theorem fl41_1 : Fld Tryz.prog 41 1 1 := Fld.mk' 1 _ Tryz.underlying41 rfl sz3
theorem fl41_2 : Fld Tryz.prog 41 2 2 := Fld.mk' 2 _ Tryz.underlying41 rfl sz35
theorem fl41_3 : Fld Tryz.prog 41 3 3 := Fld.mk' 3 _ Tryz.underlying41 rfl sz36
theorem fl41_4 : Fld Tryz.prog 41 4 4 := Fld.mk' 4 _ Tryz.underlying41 rfl sz37
theorem fl41_5 : Fld Tryz.prog 41 5 5 := Fld.mk' 5 _ Tryz.underlying41 rfl sz38
theorem fl41_6 : Fld Tryz.prog 41 6 6 := Fld.mk' 6 _ Tryz.underlying41 rfl sz39
theorem fl41_7 : Fld Tryz.prog 41 7 7 := Fld.mk' 7 _ Tryz.underlying41 rfl sz29
theorem fl41_8 : Fld Tryz.prog 41 8 8 := Fld.mk' 8 _ Tryz.underlying41 rfl sz29
theorem sz49 : Sz Tryz.prog 49 5 := Tryz.sizeOf49
theorem ag49 : Ag Tryz.prog 49 true := Tryz.isAgg49
instance : TyI Tryz.prog 49 [.v (.int .i64 0), .v (.int .i64 0), .v (.int .i64 0), .v (.int .i64 0), .s 1 0 fun _ _ => .j] := TyI.mk' (i := Tryz.t49) (by kernel_rfl) (by decide) (by decide) rfl (by decide) ⟨⟨rfl, rfl⟩, ⟨rfl, rfl⟩, ⟨rfl, rfl⟩, ⟨rfl, rfl⟩, ⟨by decide, rfl, rfl⟩, trivial⟩
theorem fl49_0 : Fld Tryz.prog 49 0 0 := Fld.mk' 0 _ Tryz.underlying49 rfl sz3
theorem fl49_1 : Fld Tryz.prog 49 1 1 := Fld.mk' 1 _ Tryz.underlying49 rfl sz3
theorem fl49_2 : Fld Tryz.prog 49 2 2 := Fld.mk' 2 _ Tryz.underlying49 rfl sz3
theorem fl49_3 : Fld Tryz.prog 49 3 3 := Fld.mk' 3 _ Tryz.underlying49 rfl sz3
instance : BdI Tryz.prog 49 [(0, 1), (1, 1), (2, 1), (3, 1), (4, 1)] := ⟨⟨_, Tryz.underlying49, fun w => by simp [Tryz.sizeOf29, Tryz.sizeOf3]⟩⟩
theorem sl59 : Sl Tryz.prog 59 49 := Tryz.underlying59
instance : SlI Tryz.prog 59 49 := ⟨Tryz.underlying59⟩
theorem sz59 : Sz Tryz.prog 59 1 := Tryz.sizeOf59
theorem ag59 : Ag Tryz.prog 59 false := Tryz.isAgg59
instance : TyI Tryz.prog 59 [.s 5 0 fun _ _ => .j] := TyI.mk' (i := Tryz.t59) (by kernel_rfl) (by decide) (by decide) rfl (by decide) ⟨⟨by decide, rfl, rfl⟩, trivial⟩
theorem sz112 : Sz Tryz.prog 112 10 := Tryz.sizeOf112
theorem ag112 : Ag Tryz.prog 112 true := Tryz.isAgg112
instance : TyI Tryz.prog 112 [.v (.int .i64 0), .v (.int .i64 0), .s 1 0 fun _ _ => .j, .s 10 0 fun _ _ => .j, .s 5 0 fun _ _ => .j, .s 2 0 fun _ _ => .j, .s 2 0 fun _ _ => .j, .s 1 0 fun _ _ => .j, .s 1 0 fun _ _ => .j, .s 5 0 fun _ _ => .j] := TyI.mk' (i := Tryz.t112) (by kernel_rfl) (by decide) (by decide) rfl (by decide) ⟨⟨rfl, rfl⟩, ⟨rfl, rfl⟩, ⟨by decide, rfl, rfl⟩, ⟨by decide, rfl, rfl⟩, ⟨by decide, rfl, rfl⟩, ⟨by decide, rfl, rfl⟩, ⟨by decide, rfl, rfl⟩, ⟨by decide, rfl, rfl⟩, ⟨by decide, rfl, rfl⟩, ⟨by decide, rfl, rfl⟩, trivial⟩
theorem fl112_0 : Fld Tryz.prog 112 0 0 := Fld.mk' 0 _ Tryz.underlying112 rfl sz31
theorem fl112_1 : Fld Tryz.prog 112 1 9 := Fld.mk' 1 _ Tryz.underlying112 rfl sz59
instance : BdI Tryz.prog 112 [(0, 9), (9, 1)] := ⟨⟨_, Tryz.underlying112, fun w => by simp [Tryz.sizeOf31, Tryz.sizeOf59]⟩⟩
instance : TyI Tryz.prog 116 [.v (.int .i64 0), .v (.int .i64 0), .s 1 0 fun _ _ => .j, .s 10 0 fun _ _ => .j, .s 5 0 fun _ _ => .j, .s 2 0 fun _ _ => .j, .s 2 0 fun _ _ => .j, .s 1 0 fun _ _ => .j, .s 1 0 fun _ _ => .j, .s 5 0 fun _ _ => .j] := TyI.mk' (i := Tryz.t116) (by kernel_rfl) (by decide) (by decide) rfl (by decide) ⟨⟨rfl, rfl⟩, ⟨rfl, rfl⟩, ⟨by decide, rfl, rfl⟩, ⟨by decide, rfl, rfl⟩, ⟨by decide, rfl, rfl⟩, ⟨by decide, rfl, rfl⟩, ⟨by decide, rfl, rfl⟩, ⟨by decide, rfl, rfl⟩, ⟨by decide, rfl, rfl⟩, ⟨by decide, rfl, rfl⟩, trivial⟩
theorem fl116_0 : Fld Tryz.prog 116 0 0 := Fld.mk' 0 _ Tryz.underlying116 rfl sz31
theorem fl116_1 : Fld Tryz.prog 116 1 9 := Fld.mk' 1 _ Tryz.underlying116 rfl sz59
instance : BdI Tryz.prog 116 [(0, 9), (9, 1)] := ⟨⟨_, Tryz.underlying116, fun w => by simp [Tryz.sizeOf31, Tryz.sizeOf59]⟩⟩
theorem eq187 (x0 : Int) (x1 : Int) (x2 : Int) (x3 : Int) (y0 : Int) (y1 : Int) (y2 : Int) (y3 : Int) (x y : Operand) (w : World) : (do eqGuard .eql 187 x y (.agg [iv x0, iv x1, iv x2, iv x3].toArray) (.agg [iv y0, iv y1, iv y2, iv y3].toArray); binOp .eql 187 (.agg [iv x0, iv x1, iv x2, iv x3].toArray) (.agg [iv y0, iv y1, iv y2, iv y3].toArray)).run Tryz.prog w = .ok (.bool (decide (x0 = y0 ∧ x1 = y1 ∧ x2 = y2 ∧ x3 = y3))) w := by
 have hg : ∀ w, (eqGuard .eql 187 x y (.agg [iv x0, iv x1, iv x2, iv x3].toArray) (.agg [iv y0, iv y1, iv y2, iv y3].toArray)).run Tryz.prog w = .ok () w := by
  intro w
  have : Tryz.prog.eqGuardType Tryz.prog.depth 187 = false := by kernel_rfl
  simp [eqGuard, this]
 have u3 := Tryz.underlying3
 have a3 := Tryz.isAgg3
 have z3 := Tryz.sizeOf3
 have hS : Tryz.prog.underlying 187 = some (.struct (Tryz.prog.fieldsOf 187)) := by kernel_rfl
 have hp : Tryz.prog.stoodInHeld 187 = false := by kernel_rfl
 simp only [Sem.run_bind, hg, Result.andThen]
 rw [run_eql_struct, show (10000 : Nat) = 9999 + 1 from rfl, run_equalIn_agg w 9999 187 _ _ hS hp]
 simp only [Program.fieldsOf, Tryz.underlying187]
 go_simp
 by_cases h0 : x0 = y0 <;> by_cases h1 : x1 = y1 <;> by_cases h2 : x2 = y2 <;> by_cases h3 : x3 = y3 <;> simp [h0, h1, h2, h3]
end Go.Proofs.YtfbefcmeghpalaaGreat.VM
