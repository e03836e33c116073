/- Contracts. No conditions. -/
import Derived.Test.YtekcnnngjoonbaaGreatProg
import Derived.Test.YtekcnnngjoonbaaGreatWd
set_option linter.all false
set_option maxHeartbeats 8000000
set_option maxRecDepth 10000
namespace Go.Proofs.YtekcnnngjoonbaaGreat.VM
open List Nat
open Go Go.RowKit Go.Proofs
theorem fX:Sz Tryz.prog 3 1:=Tryz.sizeOf3
instance:lz Tryz.prog 3 1:=⟨fX⟩
theorem aX:Ag Tryz.prog 3 false:=Tryz.isAgg3
instance:jl Tryz.prog 3 false:=⟨aX⟩
instance:ec Tryz.prog 3 [.v (.int .i64 0)]:=ec.mk' (i:=Tryz.t3) (by kernel_rfl) (by decide) (by decide) rfl (by decide) ⟨⟨rfl,rfl⟩,trivial⟩
instance:lz Tryz.prog 4 1:=⟨Tryz.sizeOf4⟩
instance:jl Tryz.prog 4 false:=⟨Tryz.isAgg4⟩
instance:ec Tryz.prog 4 [.v (.bool false)]:=ec.mk' (i:=Tryz.t4) (by kernel_rfl) (by decide) (by decide) rfl (by decide) ⟨⟨rfl,rfl⟩,trivial⟩
instance:lz Tryz.prog 188 4:=⟨Tryz.sizeOf188⟩
instance:jl Tryz.prog 188 true:=⟨Tryz.isAgg188⟩
instance:ec Tryz.prog 188 [.v (.int .i64 0), .v (.int .i64 0), .v (.int .i64 0), .v (.int .i64 0)]:=ec.mk' (i:=Tryz.t188) (by kernel_rfl) (by decide) (by decide) rfl (by decide) ⟨⟨rfl,rfl⟩,⟨rfl,rfl⟩,⟨rfl,rfl⟩,⟨rfl,rfl⟩,trivial⟩
instance:dG Tryz.prog 188 0 0:=⟨cG.mk' 0 _ Tryz.underlying188 rfl fX⟩
instance:dG Tryz.prog 188 1 1:=⟨cG.mk' 1 _ Tryz.underlying188 rfl fX⟩
instance:dG Tryz.prog 188 2 2:=⟨cG.mk' 2 _ Tryz.underlying188 rfl fX⟩
instance:dG Tryz.prog 188 3 3:=⟨cG.mk' 3 _ Tryz.underlying188 rfl fX⟩
instance:kB Tryz.prog 125 188:=⟨Tryz.underlying125⟩
instance:lz Tryz.prog 125 1:=⟨Tryz.sizeOf125⟩
instance:jl Tryz.prog 125 false:=⟨Tryz.isAgg125⟩
instance:kB Tryz.prog 22 125:=⟨Tryz.underlying22⟩
theorem BB:Sz Tryz.prog 22 1:=Tryz.sizeOf22
instance:jl Tryz.prog 22 false:=⟨Tryz.isAgg22⟩
theorem jj:Sl Tryz.prog 24 3:=Tryz.underlying24
instance:kB Tryz.prog 24 3:=⟨Tryz.underlying24⟩
theorem gO:Sz Tryz.prog 24 1:=Tryz.sizeOf24
instance:lz Tryz.prog 24 1:=⟨gO⟩
theorem a_:Ag Tryz.prog 24 false:=Tryz.isAgg24
instance:jl Tryz.prog 24 false:=⟨a_⟩
instance:ec Tryz.prog 24 [.s 1 0 λ_ _=> .j]:=ec.mk' (i:=Tryz.t24) (by kernel_rfl) (by decide) (by decide) rfl (by decide) ⟨⟨by decide,rfl,rfl⟩,trivial⟩
theorem y_:Sz Tryz.prog 127 2:=Tryz.sizeOf127
instance:lz Tryz.prog 127 2:=⟨y_⟩
instance:jl Tryz.prog 127 true:=⟨Tryz.isAgg127⟩
instance:ec Tryz.prog 127 [.v (.int .i64 0), .s 1 0 λ_ _=> .j]:=ec.mk' (i:=Tryz.t127) (by kernel_rfl) (by decide) (by decide) rfl (by decide) ⟨⟨rfl,rfl⟩,⟨by decide,rfl,rfl⟩,trivial⟩
instance:dG Tryz.prog 127 0 0:=⟨cG.mk' 0 _ Tryz.underlying127 rfl fX⟩
instance:dG Tryz.prog 127 1 1:=⟨cG.mk' 1 _ Tryz.underlying127 rfl gO⟩
instance:lz Tryz.prog 129 10:=⟨Tryz.sizeOf129⟩
instance:jl Tryz.prog 129 true:=⟨Tryz.isAgg129⟩
instance:ec Tryz.prog 129 [.v (.int .i64 0), .v (.int .i64 0), .v (.int .i64 0), .v (.int .i64 0), .v (.int .i64 0), .s 1 0 λ_ _=> .j, .s 1 0 λ_ _=> .j, .s 1 0 λ_ _=> .j, .v (.int .i64 0), .v (.int .i64 0)]:=ec.mk' (i:=Tryz.t129) (by kernel_rfl) (by decide) (by decide) rfl (by decide) ⟨⟨rfl,rfl⟩,⟨rfl,rfl⟩,⟨rfl,rfl⟩,⟨rfl,rfl⟩,⟨rfl,rfl⟩,⟨by decide,rfl,rfl⟩,⟨by decide,rfl,rfl⟩,⟨by decide,rfl,rfl⟩,⟨rfl,rfl⟩,⟨rfl,rfl⟩,trivial⟩
instance:dG Tryz.prog 129 0 0:=⟨cG.mk' 0 _ Tryz.underlying129 rfl fX⟩
instance:dG Tryz.prog 129 1 1:=⟨cG.mk' 1 _ Tryz.underlying129 rfl fX⟩
instance:dG Tryz.prog 129 2 2:=⟨cG.mk' 2 _ Tryz.underlying129 rfl fX⟩
instance:dG Tryz.prog 129 3 3:=⟨cG.mk' 3 _ Tryz.underlying129 rfl fX⟩
instance:dG Tryz.prog 129 4 4:=⟨cG.mk' 4 _ Tryz.underlying129 rfl y_⟩
instance:dG Tryz.prog 129 5 6:=⟨cG.mk' 5 _ Tryz.underlying129 rfl gO⟩
instance:dG Tryz.prog 129 6 7:=⟨cG.mk' 6 _ Tryz.underlying129 rfl gO⟩
instance:dG Tryz.prog 129 7 8:=⟨cG.mk' 7 _ Tryz.underlying129 rfl fX⟩
instance:dG Tryz.prog 129 8 9:=⟨cG.mk' 8 _ Tryz.underlying129 rfl fX⟩
instance:kB Tryz.prog 23 129:=⟨Tryz.underlying23⟩
theorem BG:Sz Tryz.prog 23 1:=Tryz.sizeOf23
instance:jl Tryz.prog 23 false:=⟨Tryz.isAgg23⟩
theorem pq:Sl Tryz.prog 25 24:=Tryz.underlying25
instance:kB Tryz.prog 25 24:=⟨Tryz.underlying25⟩
theorem yR:Sz Tryz.prog 25 1:=Tryz.sizeOf25
theorem uy:Ag Tryz.prog 25 false:=Tryz.isAgg25
instance:jl Tryz.prog 25 false:=⟨uy⟩
instance:ec Tryz.prog 25 [.s 1 0 λ_ _=> .j]:=ec.mk' (i:=Tryz.t25) (by kernel_rfl) (by decide) (by decide) rfl (by decide) ⟨⟨by decide,rfl,rfl⟩,trivial⟩
theorem AB:Sz Tryz.prog 27 1:=Tryz.sizeOf27
instance:lz Tryz.prog 27 1:=⟨AB⟩
instance:jl Tryz.prog 27 true:=⟨Tryz.isAgg27⟩
instance:ec Tryz.prog 27 [.s 1 0 λ_ _=> .j]:=ec.mk' (i:=Tryz.t27) (by kernel_rfl) (by decide) (by decide) rfl (by decide) ⟨⟨by decide,rfl,rfl⟩,trivial⟩
instance:dG Tryz.prog 27 0 0:=⟨cG.mk' 0 _ Tryz.underlying27 rfl yR⟩
instance:lz Tryz.prog 146 5:=⟨Tryz.sizeOf146⟩
instance:jl Tryz.prog 146 true:=⟨Tryz.isAgg146⟩
instance:ec Tryz.prog 146 [.v (.int .i64 0), .v (.int .i64 0), .v (.int .i64 0), .v (.int .i64 0), .v (.int .i64 0)]:=ec.mk' (i:=Tryz.t146) (by kernel_rfl) (by decide) (by decide) rfl (by decide) ⟨⟨rfl,rfl⟩,⟨rfl,rfl⟩,⟨rfl,rfl⟩,⟨rfl,rfl⟩,⟨rfl,rfl⟩,trivial⟩
instance:dG Tryz.prog 146 0 0:=⟨cG.mk' 0 _ Tryz.underlying146 rfl fX⟩
instance:dG Tryz.prog 146 1 1:=⟨cG.mk' 1 _ Tryz.underlying146 rfl fX⟩
instance:dG Tryz.prog 146 2 2:=⟨cG.mk' 2 _ Tryz.underlying146 rfl fX⟩
instance:dG Tryz.prog 146 3 3:=⟨cG.mk' 3 _ Tryz.underlying146 rfl fX⟩
instance:dG Tryz.prog 146 4 4:=⟨cG.mk' 4 _ Tryz.underlying146 rfl fX⟩
instance:kB Tryz.prog 28 146:=⟨Tryz.underlying28⟩
theorem BP:Sz Tryz.prog 28 1:=Tryz.sizeOf28
instance:jl Tryz.prog 28 false:=⟨Tryz.isAgg28⟩
instance:lz Tryz.prog 132 2:=⟨Tryz.sizeOf132⟩
instance:jl Tryz.prog 132 true:=⟨Tryz.isAgg132⟩
instance:ec Tryz.prog 132 [.v (.int .i64 0), .s 1 0 λ_ _=> .j]:=ec.mk' (i:=Tryz.t132) (by kernel_rfl) (by decide) (by decide) rfl (by decide) ⟨⟨rfl,rfl⟩,⟨by decide,rfl,rfl⟩,trivial⟩
instance:dG Tryz.prog 132 0 0:=⟨cG.mk' 0 _ Tryz.underlying132 rfl fX⟩
instance:dG Tryz.prog 132 1 1:=⟨cG.mk' 1 _ Tryz.underlying132 rfl yR⟩
instance:kB Tryz.prog 29 132:=⟨Tryz.underlying29⟩
theorem Bw:Sz Tryz.prog 29 1:=Tryz.sizeOf29
instance:jl Tryz.prog 29 false:=⟨Tryz.isAgg29⟩
instance:lz Tryz.prog 134 2:=⟨Tryz.sizeOf134⟩
instance:jl Tryz.prog 134 true:=⟨Tryz.isAgg134⟩
instance:ec Tryz.prog 134 [.v (.int .i64 0), .s 1 0 λ_ _=> .j]:=ec.mk' (i:=Tryz.t134) (by kernel_rfl) (by decide) (by decide) rfl (by decide) ⟨⟨rfl,rfl⟩,⟨by decide,rfl,rfl⟩,trivial⟩
instance:dG Tryz.prog 134 0 0:=⟨cG.mk' 0 _ Tryz.underlying134 rfl fX⟩
instance:dG Tryz.prog 134 1 1:=⟨cG.mk' 1 _ Tryz.underlying134 rfl gO⟩
instance:kB Tryz.prog 30 134:=⟨Tryz.underlying30⟩
theorem BJ:Sz Tryz.prog 30 1:=Tryz.sizeOf30
instance:jl Tryz.prog 30 false:=⟨Tryz.isAgg30⟩
instance:lz Tryz.prog 32 11:=⟨Tryz.sizeOf32⟩
instance:jl Tryz.prog 32 true:=⟨Tryz.isAgg32⟩
instance:ec Tryz.prog 32 [.v (.int .i64 0), .v (.int .i64 0), .s 1 0 λ_ _=> .j, .s 10 0 λ_ _=> .j, .s 1 0 λ_ _=> .j, .s 1 0 λ_ _=> .j, .s 5 0 λ_ _=> .j, .s 2 0 λ_ _=> .j, .s 2 0 λ_ _=> .j, .s 1 0 λ_ _=> .j, .s 1 0 λ_ _=> .j]:=ec.mk' (i:=Tryz.t32) (by kernel_rfl) (by decide) (by decide) rfl (by decide) ⟨⟨rfl,rfl⟩,⟨rfl,rfl⟩,⟨by decide,rfl,rfl⟩,⟨by decide,rfl,rfl⟩,⟨by decide,rfl,rfl⟩,⟨by decide,rfl,rfl⟩,⟨by decide,rfl,rfl⟩,⟨by decide,rfl,rfl⟩,⟨by decide,rfl,rfl⟩,⟨by decide,rfl,rfl⟩,⟨by decide,rfl,rfl⟩,trivial⟩
instance:dG Tryz.prog 32 0 0:=⟨cG.mk' 0 _ Tryz.underlying32 rfl fX⟩
instance:dG Tryz.prog 32 1 1:=⟨cG.mk' 1 _ Tryz.underlying32 rfl fX⟩
instance:dG Tryz.prog 32 2 2:=⟨cG.mk' 2 _ Tryz.underlying32 rfl BB⟩
instance:dG Tryz.prog 32 3 3:=⟨cG.mk' 3 _ Tryz.underlying32 rfl BG⟩
instance:dG Tryz.prog 32 4 4:=⟨cG.mk' 4 _ Tryz.underlying32 rfl gO⟩
instance:dG Tryz.prog 32 5 5:=⟨cG.mk' 5 _ Tryz.underlying32 rfl AB⟩
instance:dG Tryz.prog 32 6 6:=⟨cG.mk' 6 _ Tryz.underlying32 rfl BP⟩
instance:dG Tryz.prog 32 7 7:=⟨cG.mk' 7 _ Tryz.underlying32 rfl Bw⟩
instance:dG Tryz.prog 32 8 8:=⟨cG.mk' 8 _ Tryz.underlying32 rfl BJ⟩
instance:dG Tryz.prog 32 9 9:=⟨cG.mk' 9 _ Tryz.underlying32 rfl gO⟩
instance:dG Tryz.prog 32 10 10:=⟨cG.mk' 10 _ Tryz.underlying32 rfl gO⟩
theorem zi:Sz Tryz.prog 156 4:=Tryz.sizeOf156
instance:lz Tryz.prog 156 4:=⟨zi⟩
theorem za:Ag Tryz.prog 156 true:=Tryz.isAgg156
instance:jl Tryz.prog 156 true:=⟨za⟩
instance:ec Tryz.prog 156 [.v (.int .i64 0), .v (.int .i64 0), .v (.int .i64 0), .v (.int .i64 0)]:=ec.mk' (i:=Tryz.t156) (by kernel_rfl) (by decide) (by decide) rfl (by decide) ⟨⟨rfl,rfl⟩,⟨rfl,rfl⟩,⟨rfl,rfl⟩,⟨rfl,rfl⟩,trivial⟩
instance:dG Tryz.prog 156 0 0:=⟨cG.mk' 0 _ Tryz.underlying156 rfl fX⟩
instance:dG Tryz.prog 156 1 1:=⟨cG.mk' 1 _ Tryz.underlying156 rfl fX⟩
instance:dG Tryz.prog 156 2 2:=⟨cG.mk' 2 _ Tryz.underlying156 rfl fX⟩
instance:dG Tryz.prog 156 3 3:=⟨cG.mk' 3 _ Tryz.underlying156 rfl fX⟩
instance:zU Tryz.prog 156 [(0,1),(1,1),(2,1),(3,1)]:=⟨⟨_,Tryz.underlying156,λw=>by simp[Tryz.sizeOf3]⟩⟩
theorem A9:Sl Tryz.prog 141 156:=Tryz.underlying141
instance:kB Tryz.prog 141 156:=⟨Tryz.underlying141⟩
theorem xr:Sz Tryz.prog 141 1:=Tryz.sizeOf141
instance:lz Tryz.prog 141 1:=⟨xr⟩
theorem xB:Ag Tryz.prog 141 false:=Tryz.isAgg141
instance:jl Tryz.prog 141 false:=⟨xB⟩
instance:ec Tryz.prog 141 [.s 4 0 λ_ _=> .j]:=ec.mk' (i:=Tryz.t141) (by kernel_rfl) (by decide) (by decide) rfl (by decide) ⟨⟨by decide,rfl,rfl⟩,trivial⟩
theorem yh:Sl Tryz.prog 34 141:=Tryz.underlying34
instance:kB Tryz.prog 34 141:=⟨Tryz.underlying34⟩
theorem Bf:Sz Tryz.prog 34 1:=Tryz.sizeOf34
theorem kM:Ag Tryz.prog 34 false:=Tryz.isAgg34
instance:jl Tryz.prog 34 false:=⟨kM⟩
instance:ec Tryz.prog 34 [.s 1 0 λ_ _=> .j]:=ec.mk' (i:=Tryz.t34) (by kernel_rfl) (by decide) (by decide) rfl (by decide) ⟨⟨by decide,rfl,rfl⟩,trivial⟩
theorem vW:Sz Tryz.prog 75 2:=Tryz.sizeOf75
instance:lz Tryz.prog 75 2:=⟨vW⟩
theorem yH:Ag Tryz.prog 75 true:=Tryz.isAgg75
instance:jl Tryz.prog 75 true:=⟨yH⟩
instance:ec Tryz.prog 75 [.v (.int .i64 0), .s 1 0 λ_ _=> .j]:=ec.mk' (i:=Tryz.t75) (by kernel_rfl) (by decide) (by decide) rfl (by decide) ⟨⟨rfl,rfl⟩,⟨by decide,rfl,rfl⟩,trivial⟩
theorem dd:cG Tryz.prog 75 0 0:=cG.mk' 0 _ Tryz.underlying75 rfl fX
instance:dG Tryz.prog 75 0 0:=⟨dd⟩
theorem fJ:cG Tryz.prog 75 1 1:=cG.mk' 1 _ Tryz.underlying75 rfl gO
instance:dG Tryz.prog 75 1 1:=⟨fJ⟩
instance:zU Tryz.prog 75 [(0,1),(1,1)]:=⟨⟨_,Tryz.underlying75,λw=>by simp[Tryz.sizeOf24,Tryz.sizeOf3]⟩⟩
theorem dh:Sz Tryz.prog 81 10:=Tryz.sizeOf81
instance:lz Tryz.prog 81 10:=⟨dh⟩
theorem g_:Ag Tryz.prog 81 true:=Tryz.isAgg81
instance:jl Tryz.prog 81 true:=⟨g_⟩
instance:ec Tryz.prog 81 [.v (.int .i64 0), .v (.int .i64 0), .v (.int .i64 0), .v (.int .i64 0), .v (.int .i64 0), .s 1 0 λ_ _=> .j, .s 1 0 λ_ _=> .j, .s 1 0 λ_ _=> .j, .v (.int .i64 0), .v (.int .i64 0)]:=ec.mk' (i:=Tryz.t81) (by kernel_rfl) (by decide) (by decide) rfl (by decide) ⟨⟨rfl,rfl⟩,⟨rfl,rfl⟩,⟨rfl,rfl⟩,⟨rfl,rfl⟩,⟨rfl,rfl⟩,⟨by decide,rfl,rfl⟩,⟨by decide,rfl,rfl⟩,⟨by decide,rfl,rfl⟩,⟨rfl,rfl⟩,⟨rfl,rfl⟩,trivial⟩
theorem lu:cG Tryz.prog 81 0 0:=cG.mk' 0 _ Tryz.underlying81 rfl fX
instance:dG Tryz.prog 81 0 0:=⟨lu⟩
instance:dG Tryz.prog 81 1 1:=⟨cG.mk' 1 _ Tryz.underlying81 rfl fX⟩
instance:dG Tryz.prog 81 2 2:=⟨cG.mk' 2 _ Tryz.underlying81 rfl fX⟩
instance:dG Tryz.prog 81 3 3:=⟨cG.mk' 3 _ Tryz.underlying81 rfl fX⟩
instance:dG Tryz.prog 81 4 4:=⟨cG.mk' 4 _ Tryz.underlying81 rfl vW⟩
theorem uq:cG Tryz.prog 81 5 6:=cG.mk' 5 _ Tryz.underlying81 rfl gO
instance:dG Tryz.prog 81 5 6:=⟨uq⟩
instance:dG Tryz.prog 81 6 7:=⟨cG.mk' 6 _ Tryz.underlying81 rfl gO⟩
instance:dG Tryz.prog 81 7 8:=⟨cG.mk' 7 _ Tryz.underlying81 rfl fX⟩
instance:dG Tryz.prog 81 8 9:=⟨cG.mk' 8 _ Tryz.underlying81 rfl fX⟩
instance:zU Tryz.prog 81 [(0,1),(1,1),(2,1),(3,1),(4,2),(6,1),(7,1),(8,1),(9,1)]:=⟨⟨_,Tryz.underlying81,λw=>by simp[Tryz.sizeOf24,Tryz.sizeOf3,Tryz.sizeOf75]⟩⟩
theorem fy:Sl Tryz.prog 35 81:=Tryz.underlying35
instance:kB Tryz.prog 35 81:=⟨Tryz.underlying35⟩
theorem Bz:Sz Tryz.prog 35 1:=Tryz.sizeOf35
theorem pj:Ag Tryz.prog 35 false:=Tryz.isAgg35
instance:jl Tryz.prog 35 false:=⟨pj⟩
instance:ec Tryz.prog 35 [.s 10 0 λ_ _=> .j]:=ec.mk' (i:=Tryz.t35) (by kernel_rfl) (by decide) (by decide) rfl (by decide) ⟨⟨by decide,rfl,rfl⟩,trivial⟩
theorem dq:Sz Tryz.prog 72 5:=Tryz.sizeOf72
instance:lz Tryz.prog 72 5:=⟨dq⟩
theorem gW:Ag Tryz.prog 72 true:=Tryz.isAgg72
instance:jl Tryz.prog 72 true:=⟨gW⟩
instance:ec Tryz.prog 72 [.v (.int .i64 0), .v (.int .i64 0), .v (.int .i64 0), .v (.int .i64 0), .v (.int .i64 0)]:=ec.mk' (i:=Tryz.t72) (by kernel_rfl) (by decide) (by decide) rfl (by decide) ⟨⟨rfl,rfl⟩,⟨rfl,rfl⟩,⟨rfl,rfl⟩,⟨rfl,rfl⟩,⟨rfl,rfl⟩,trivial⟩
theorem n7:cG Tryz.prog 72 0 0:=cG.mk' 0 _ Tryz.underlying72 rfl fX
instance:dG Tryz.prog 72 0 0:=⟨n7⟩
instance:dG Tryz.prog 72 1 1:=⟨cG.mk' 1 _ Tryz.underlying72 rfl fX⟩
instance:dG Tryz.prog 72 2 2:=⟨cG.mk' 2 _ Tryz.underlying72 rfl fX⟩
instance:dG Tryz.prog 72 3 3:=⟨cG.mk' 3 _ Tryz.underlying72 rfl fX⟩
instance:dG Tryz.prog 72 4 4:=⟨cG.mk' 4 _ Tryz.underlying72 rfl fX⟩
theorem fB:Sl Tryz.prog 36 72:=Tryz.underlying36
instance:kB Tryz.prog 36 72:=⟨Tryz.underlying36⟩
theorem AA:Sz Tryz.prog 36 1:=Tryz.sizeOf36
theorem o_:Ag Tryz.prog 36 false:=Tryz.isAgg36
instance:jl Tryz.prog 36 false:=⟨o_⟩
instance:ec Tryz.prog 36 [.s 5 0 λ_ _=> .j]:=ec.mk' (i:=Tryz.t36) (by kernel_rfl) (by decide) (by decide) rfl (by decide) ⟨⟨by decide,rfl,rfl⟩,trivial⟩
theorem dt:Sz Tryz.prog 86 2:=Tryz.sizeOf86
instance:lz Tryz.prog 86 2:=⟨dt⟩
theorem iN:Ag Tryz.prog 86 true:=Tryz.isAgg86
instance:jl Tryz.prog 86 true:=⟨iN⟩
instance:ec Tryz.prog 86 [.v (.int .i64 0), .s 1 0 λ_ _=> .j]:=ec.mk' (i:=Tryz.t86) (by kernel_rfl) (by decide) (by decide) rfl (by decide) ⟨⟨rfl,rfl⟩,⟨by decide,rfl,rfl⟩,trivial⟩
theorem nI:cG Tryz.prog 86 0 0:=cG.mk' 0 _ Tryz.underlying86 rfl fX
instance:dG Tryz.prog 86 0 0:=⟨nI⟩
instance:dG Tryz.prog 86 1 1:=⟨cG.mk' 1 _ Tryz.underlying86 rfl gO⟩
instance:zU Tryz.prog 86 [(0,1),(1,1)]:=⟨⟨_,Tryz.underlying86,λw=>by simp[Tryz.sizeOf24,Tryz.sizeOf3]⟩⟩
theorem fV:Sl Tryz.prog 37 86:=Tryz.underlying37
instance:kB Tryz.prog 37 86:=⟨Tryz.underlying37⟩
theorem Bt:Sz Tryz.prog 37 1:=Tryz.sizeOf37
theorem uS:Ag Tryz.prog 37 false:=Tryz.isAgg37
instance:jl Tryz.prog 37 false:=⟨uS⟩
instance:ec Tryz.prog 37 [.s 2 0 λ_ _=> .j]:=ec.mk' (i:=Tryz.t37) (by kernel_rfl) (by decide) (by decide) rfl (by decide) ⟨⟨by decide,rfl,rfl⟩,trivial⟩
theorem cX:Sz Tryz.prog 96 2:=Tryz.sizeOf96
instance:lz Tryz.prog 96 2:=⟨cX⟩
theorem gS:Ag Tryz.prog 96 true:=Tryz.isAgg96
instance:jl Tryz.prog 96 true:=⟨gS⟩
instance:ec Tryz.prog 96 [.v (.int .i64 0), .s 1 0 λ_ _=> .j]:=ec.mk' (i:=Tryz.t96) (by kernel_rfl) (by decide) (by decide) rfl (by decide) ⟨⟨rfl,rfl⟩,⟨by decide,rfl,rfl⟩,trivial⟩
theorem jg:cG Tryz.prog 96 0 0:=cG.mk' 0 _ Tryz.underlying96 rfl fX
instance:dG Tryz.prog 96 0 0:=⟨jg⟩
theorem rz:cG Tryz.prog 96 1 1:=cG.mk' 1 _ Tryz.underlying96 rfl gO
instance:dG Tryz.prog 96 1 1:=⟨rz⟩
instance:zU Tryz.prog 96 [(0,1),(1,1)]:=⟨⟨_,Tryz.underlying96,λw=>by simp[Tryz.sizeOf24,Tryz.sizeOf3]⟩⟩
theorem ez:Sl Tryz.prog 38 96:=Tryz.underlying38
instance:kB Tryz.prog 38 96:=⟨Tryz.underlying38⟩
theorem Au:Sz Tryz.prog 38 1:=Tryz.sizeOf38
theorem jK:Ag Tryz.prog 38 false:=Tryz.isAgg38
instance:jl Tryz.prog 38 false:=⟨jK⟩
instance:ec Tryz.prog 38 [.s 2 0 λ_ _=> .j]:=ec.mk' (i:=Tryz.t38) (by kernel_rfl) (by decide) (by decide) rfl (by decide) ⟨⟨by decide,rfl,rfl⟩,trivial⟩
theorem wB:Sz Tryz.prog 40 9:=Tryz.sizeOf40
instance:lz Tryz.prog 40 9:=⟨wB⟩
theorem wg:Ag Tryz.prog 40 true:=Tryz.isAgg40
instance:jl Tryz.prog 40 true:=⟨wg⟩
instance:ec Tryz.prog 40 [.v (.int .i64 0), .v (.int .i64 0), .s 1 0 λ_ _=> .j, .s 10 0 λ_ _=> .j, .s 5 0 λ_ _=> .j, .s 2 0 λ_ _=> .j, .s 2 0 λ_ _=> .j, .s 1 0 λ_ _=> .j, .s 1 0 λ_ _=> .j]:=ec.mk' (i:=Tryz.t40) (by kernel_rfl) (by decide) (by decide) rfl (by decide) ⟨⟨rfl,rfl⟩,⟨rfl,rfl⟩,⟨by decide,rfl,rfl⟩,⟨by decide,rfl,rfl⟩,⟨by decide,rfl,rfl⟩,⟨by decide,rfl,rfl⟩,⟨by decide,rfl,rfl⟩,⟨by decide,rfl,rfl⟩,⟨by decide,rfl,rfl⟩,trivial⟩
instance:dG Tryz.prog 40 0 0:=⟨cG.mk' 0 _ Tryz.underlying40 rfl fX⟩
instance:dG Tryz.prog 40 1 1:=⟨cG.mk' 1 _ Tryz.underlying40 rfl fX⟩
instance:dG Tryz.prog 40 2 2:=⟨cG.mk' 2 _ Tryz.underlying40 rfl Bf⟩
theorem gM:cG Tryz.prog 40 3 3:=cG.mk' 3 _ Tryz.underlying40 rfl Bz
instance:dG Tryz.prog 40 3 3:=⟨gM⟩
theorem qo:cG Tryz.prog 40 4 4:=cG.mk' 4 _ Tryz.underlying40 rfl AA
instance:dG Tryz.prog 40 4 4:=⟨qo⟩
theorem jJ:cG Tryz.prog 40 5 5:=cG.mk' 5 _ Tryz.underlying40 rfl Bt
instance:dG Tryz.prog 40 5 5:=⟨jJ⟩
theorem mw:cG Tryz.prog 40 6 6:=cG.mk' 6 _ Tryz.underlying40 rfl Au
instance:dG Tryz.prog 40 6 6:=⟨mw⟩
instance:dG Tryz.prog 40 7 7:=⟨cG.mk' 7 _ Tryz.underlying40 rfl gO⟩
instance:dG Tryz.prog 40 8 8:=⟨cG.mk' 8 _ Tryz.underlying40 rfl gO⟩
instance:zU Tryz.prog 40 [(0,1),(1,1),(2,1),(3,1),(4,1),(5,1),(6,1),(7,1),(8,1)]:=⟨⟨_,Tryz.underlying40,λw=>by simp[Tryz.sizeOf24,Tryz.sizeOf3,Tryz.sizeOf34,Tryz.sizeOf35,Tryz.sizeOf36,Tryz.sizeOf37,Tryz.sizeOf38]⟩⟩
theorem o8:Sz Tryz.prog 77 10:=Tryz.sizeOf77
instance:lz Tryz.prog 77 10:=⟨o8⟩
theorem xe:Ag Tryz.prog 77 true:=Tryz.isAgg77
instance:jl Tryz.prog 77 true:=⟨xe⟩
instance:ec Tryz.prog 77 [.v (.int .i64 0), .v (.int .i64 0), .v (.int .i64 0), .v (.int .i64 0), .v (.int .i64 0), .s 1 0 λ_ _=> .j, .s 1 0 λ_ _=> .j, .s 1 0 λ_ _=> .j, .v (.int .i64 0), .v (.int .i64 0)]:=ec.mk' (i:=Tryz.t77) (by kernel_rfl) (by decide) (by decide) rfl (by decide) ⟨⟨rfl,rfl⟩,⟨rfl,rfl⟩,⟨rfl,rfl⟩,⟨rfl,rfl⟩,⟨rfl,rfl⟩,⟨by decide,rfl,rfl⟩,⟨by decide,rfl,rfl⟩,⟨by decide,rfl,rfl⟩,⟨rfl,rfl⟩,⟨rfl,rfl⟩,trivial⟩
theorem cP:cG Tryz.prog 77 0 0:=cG.mk' 0 _ Tryz.underlying77 rfl fX
instance:dG Tryz.prog 77 0 0:=⟨cP⟩
theorem cN:cG Tryz.prog 77 1 1:=cG.mk' 1 _ Tryz.underlying77 rfl fX
instance:dG Tryz.prog 77 1 1:=⟨cN⟩
theorem cL:cG Tryz.prog 77 2 2:=cG.mk' 2 _ Tryz.underlying77 rfl fX
instance:dG Tryz.prog 77 2 2:=⟨cL⟩
theorem cO:cG Tryz.prog 77 3 3:=cG.mk' 3 _ Tryz.underlying77 rfl fX
instance:dG Tryz.prog 77 3 3:=⟨cO⟩
theorem b9:cG Tryz.prog 77 4 4:=cG.mk' 4 _ Tryz.underlying77 rfl vW
instance:dG Tryz.prog 77 4 4:=⟨b9⟩
theorem jT:cG Tryz.prog 77 5 6:=cG.mk' 5 _ Tryz.underlying77 rfl gO
instance:dG Tryz.prog 77 5 6:=⟨jT⟩
theorem dm:cG Tryz.prog 77 6 7:=cG.mk' 6 _ Tryz.underlying77 rfl gO
instance:dG Tryz.prog 77 6 7:=⟨dm⟩
theorem cK:cG Tryz.prog 77 7 8:=cG.mk' 7 _ Tryz.underlying77 rfl fX
instance:dG Tryz.prog 77 7 8:=⟨cK⟩
theorem cM:cG Tryz.prog 77 8 9:=cG.mk' 8 _ Tryz.underlying77 rfl fX
instance:dG Tryz.prog 77 8 9:=⟨cM⟩
theorem qA:Sl Tryz.prog 42 77:=Tryz.underlying42
instance:kB Tryz.prog 42 77:=⟨Tryz.underlying42⟩
theorem BL:Sz Tryz.prog 42 1:=Tryz.sizeOf42
theorem sN:Ag Tryz.prog 42 false:=Tryz.isAgg42
instance:jl Tryz.prog 42 false:=⟨sN⟩
instance:ec Tryz.prog 42 [.s 10 0 λ_ _=> .j]:=ec.mk' (i:=Tryz.t42) (by kernel_rfl) (by decide) (by decide) rfl (by decide) ⟨⟨by decide,rfl,rfl⟩,trivial⟩
theorem zp:Sz Tryz.prog 43 1:=Tryz.sizeOf43
instance:lz Tryz.prog 43 1:=⟨zp⟩
theorem AP:Ag Tryz.prog 43 true:=Tryz.isAgg43
instance:jl Tryz.prog 43 true:=⟨AP⟩
instance:ec Tryz.prog 43 [.s 1 0 λ_ _=> .j]:=ec.mk' (i:=Tryz.t43) (by kernel_rfl) (by decide) (by decide) rfl (by decide) ⟨⟨by decide,rfl,rfl⟩,trivial⟩
instance:dG Tryz.prog 43 0 0:=⟨cG.mk' 0 _ Tryz.underlying43 rfl yR⟩
theorem ng:Sz Tryz.prog 83 2:=Tryz.sizeOf83
instance:lz Tryz.prog 83 2:=⟨ng⟩
theorem xZ:Ag Tryz.prog 83 true:=Tryz.isAgg83
instance:jl Tryz.prog 83 true:=⟨xZ⟩
instance:ec Tryz.prog 83 [.v (.int .i64 0), .s 1 0 λ_ _=> .j]:=ec.mk' (i:=Tryz.t83) (by kernel_rfl) (by decide) (by decide) rfl (by decide) ⟨⟨rfl,rfl⟩,⟨by decide,rfl,rfl⟩,trivial⟩
theorem oI:cG Tryz.prog 83 0 0:=cG.mk' 0 _ Tryz.underlying83 rfl fX
instance:dG Tryz.prog 83 0 0:=⟨oI⟩
theorem k_:cG Tryz.prog 83 1 1:=cG.mk' 1 _ Tryz.underlying83 rfl yR
instance:dG Tryz.prog 83 1 1:=⟨k_⟩
theorem oo:Sl Tryz.prog 44 83:=Tryz.underlying44
instance:kB Tryz.prog 44 83:=⟨Tryz.underlying44⟩
theorem BM:Sz Tryz.prog 44 1:=Tryz.sizeOf44
theorem pn:Ag Tryz.prog 44 false:=Tryz.isAgg44
instance:jl Tryz.prog 44 false:=⟨pn⟩
instance:ec Tryz.prog 44 [.s 2 0 λ_ _=> .j]:=ec.mk' (i:=Tryz.t44) (by kernel_rfl) (by decide) (by decide) rfl (by decide) ⟨⟨by decide,rfl,rfl⟩,trivial⟩
theorem yD:Sz Tryz.prog 46 11:=Tryz.sizeOf46
instance:lz Tryz.prog 46 11:=⟨yD⟩
theorem yo:Ag Tryz.prog 46 true:=Tryz.isAgg46
instance:jl Tryz.prog 46 true:=⟨yo⟩
instance:ec Tryz.prog 46 [.v (.int .i64 0), .v (.int .i64 0), .s 1 0 λ_ _=> .j, .s 10 0 λ_ _=> .j, .s 1 0 λ_ _=> .j, .s 1 0 λ_ _=> .j, .s 5 0 λ_ _=> .j, .s 2 0 λ_ _=> .j, .s 2 0 λ_ _=> .j, .s 1 0 λ_ _=> .j, .s 1 0 λ_ _=> .j]:=ec.mk' (i:=Tryz.t46) (by kernel_rfl) (by decide) (by decide) rfl (by decide) ⟨⟨rfl,rfl⟩,⟨rfl,rfl⟩,⟨by decide,rfl,rfl⟩,⟨by decide,rfl,rfl⟩,⟨by decide,rfl,rfl⟩,⟨by decide,rfl,rfl⟩,⟨by decide,rfl,rfl⟩,⟨by decide,rfl,rfl⟩,⟨by decide,rfl,rfl⟩,⟨by decide,rfl,rfl⟩,⟨by decide,rfl,rfl⟩,trivial⟩
theorem bo:cG Tryz.prog 46 0 0:=cG.mk' 0 _ Tryz.underlying46 rfl fX
instance:dG Tryz.prog 46 0 0:=⟨bo⟩
theorem bp:cG Tryz.prog 46 1 1:=cG.mk' 1 _ Tryz.underlying46 rfl fX
instance:dG Tryz.prog 46 1 1:=⟨bp⟩
theorem fz:cG Tryz.prog 46 2 2:=cG.mk' 2 _ Tryz.underlying46 rfl Bf
instance:dG Tryz.prog 46 2 2:=⟨fz⟩
theorem j6:cG Tryz.prog 46 3 3:=cG.mk' 3 _ Tryz.underlying46 rfl BL
instance:dG Tryz.prog 46 3 3:=⟨j6⟩
theorem lr:cG Tryz.prog 46 4 4:=cG.mk' 4 _ Tryz.underlying46 rfl gO
instance:dG Tryz.prog 46 4 4:=⟨lr⟩
instance:dG Tryz.prog 46 5 5:=⟨cG.mk' 5 _ Tryz.underlying46 rfl zp⟩
theorem j5:cG Tryz.prog 46 6 6:=cG.mk' 6 _ Tryz.underlying46 rfl AA
instance:dG Tryz.prog 46 6 6:=⟨j5⟩
theorem ji:cG Tryz.prog 46 7 7:=cG.mk' 7 _ Tryz.underlying46 rfl BM
instance:dG Tryz.prog 46 7 7:=⟨ji⟩
theorem fL:cG Tryz.prog 46 8 8:=cG.mk' 8 _ Tryz.underlying46 rfl Au
instance:dG Tryz.prog 46 8 8:=⟨fL⟩
theorem bT:cG Tryz.prog 46 9 9:=cG.mk' 9 _ Tryz.underlying46 rfl gO
instance:dG Tryz.prog 46 9 9:=⟨bT⟩
theorem bk:cG Tryz.prog 46 10 10:=cG.mk' 10 _ Tryz.underlying46 rfl gO
instance:dG Tryz.prog 46 10 10:=⟨bk⟩
instance:kB Tryz.prog 117 4:=⟨Tryz.underlying117⟩
theorem l_(x0:Int)(x1:Int)(x2:Int)(x3:Int)(y0:Int)(y1:Int)(y2:Int)(y3:Int)(x y:Operand)(w:World):(do eqGuard .eql 156 x y (.agg [iv x0,iv x1,iv x2,iv x3].toArray) (.agg [iv y0,iv y1,iv y2,iv y3].toArray);binOp .eql 156 (.agg [iv x0,iv x1,iv x2,iv x3].toArray) (.agg [iv y0,iv y1,iv y2,iv y3].toArray)).run Tryz.prog w= .ok (.bool (decide (x0=y0∧x1=y1∧x2=y2∧x3=y3))) w:=by
 have hg:∀w,(eqGuard .eql 156 x y (.agg [iv x0,iv x1,iv x2,iv x3].toArray) (.agg [iv y0,iv y1,iv y2,iv y3].toArray)).run Tryz.prog w= .ok () w:=by
  intro w;have:Tryz.prog.eqGuardType Tryz.prog.depth 156=false:=by kernel_rfl
  simp[eqGuard,this]
 have u3:=Tryz.underlying3;have a3:=Tryz.isAgg3;have z3:=Tryz.sizeOf3;have hS:Tryz.prog.underlying 156=some (.struct (Tryz.prog.fieldsOf 156)):=by kernel_rfl
 have hp:Tryz.prog.stoodInHeld 156=false:=by kernel_rfl
 simp only[Sem.run_bind,hg,Result.andThen];rw[run_eql_struct,show(10000:Nat)=9999+1 from rfl,run_equalIn_agg w 9999 156 _ _ hS hp];simp only[Program.fieldsOf,Tryz.underlying156]
 go_simp
 by_cases h0:x0=y0<;>by_cases h1:x1=y1<;>by_cases h2:x2=y2<;>by_cases h3:x3=y3<;>simp[h0,h1,h2,h3]
end Go.Proofs.YtekcnnngjoonbaaGreat.VM
