/- Contracts. No conditions. -/
import Derived.Test.YtekcnnngjoonbaaGreatProg
import Derived.Test.YtekcnnngjoonbaaGreatWd
set_option linter.all false
set_option maxHeartbeats 8000000
set_option maxRecDepth 10000
namespace Go.Proofs.YtekcnnngjoonbaaGreat.VM
open List Nat
open Go Go.RowKit Go.Proofs Go.Proofs.Tryz
theorem fP:Sz prog 3 1:=sizeOf3
instance:lK prog 3 1:=⟨fP⟩
theorem DX:Ag prog 3 false:=isAgg3
instance:jo prog 3 false:=⟨DX⟩
instance:dQ prog 3 [.v (.int .i64 0)]:=dQ.mk' (i:=t3) (by kernel_rfl) (by decide) (by decide) rfl (by decide) ⟨⟨rfl,rfl⟩,trivial⟩
instance:lK prog 4 1:=⟨sizeOf4⟩
instance:jo prog 4 false:=⟨isAgg4⟩
instance:dQ prog 4 [.v (.bool false)]:=dQ.mk' (i:=t4) (by kernel_rfl) (by decide) (by decide) rfl (by decide) ⟨⟨rfl,rfl⟩,trivial⟩
theorem Ez:Sz prog 5 1:=sizeOf5
instance:dQ prog 5 [.v (.int .u8 0)]:=dQ.mk' (i:=t5) (by kernel_rfl) (by decide) (by decide) rfl (by decide) ⟨⟨rfl,rfl⟩,trivial⟩
instance:dQ prog 9 [.v (.string ⟨#[]⟩)]:=dQ.mk' (i:=t9) (by kernel_rfl) (by decide) (by decide) rfl (by decide) ⟨⟨rfl,rfl⟩,trivial⟩
instance:lK prog 188 4:=⟨sizeOf188⟩
instance:jo prog 188 true:=⟨isAgg188⟩
instance:dQ prog 188 [.v (.int .i64 0),.v (.int .i64 0),.v (.int .i64 0),.v (.int .i64 0)]:=dQ.mk' (i:=t188) (by kernel_rfl) (by decide) (by decide) rfl (by decide) ⟨⟨rfl,rfl⟩,⟨rfl,rfl⟩,⟨rfl,rfl⟩,⟨rfl,rfl⟩,trivial⟩
instance:dx prog 188 0 0:=⟨dj.mk' 0 _ underlying188 rfl fP⟩
instance:dx prog 188 1 1:=⟨dj.mk' 1 _ underlying188 rfl fP⟩
instance:dx prog 188 2 2:=⟨dj.mk' 2 _ underlying188 rfl fP⟩
instance:dx prog 188 3 3:=⟨dj.mk' 3 _ underlying188 rfl fP⟩
instance:j7 prog 125 188:=⟨underlying125⟩
instance:lK prog 125 1:=⟨sizeOf125⟩
instance:jo prog 125 false:=⟨isAgg125⟩
instance:j7 prog 22 125:=⟨underlying22⟩
theorem D3:Sz prog 22 1:=sizeOf22
instance:jo prog 22 false:=⟨isAgg22⟩
theorem kb:Sl prog 24 3:=underlying24
instance:j7 prog 24 3:=⟨underlying24⟩
theorem iP:Sz prog 24 1:=sizeOf24
instance:lK prog 24 1:=⟨iP⟩
theorem tL:Ag prog 24 false:=isAgg24
instance:jo prog 24 false:=⟨tL⟩
instance:dQ prog 24 [.s 1 0 λ_ _=> .j]:=dQ.mk' (i:=t24) (by kernel_rfl) (by decide) (by decide) rfl (by decide) ⟨⟨by decide,rfl,rfl⟩,trivial⟩
theorem Bw:Sz prog 127 2:=sizeOf127
instance:lK prog 127 2:=⟨Bw⟩
instance:jo prog 127 true:=⟨isAgg127⟩
instance:dQ prog 127 [.v (.int .i64 0),.s 1 0 λ_ _=> .j]:=dQ.mk' (i:=t127) (by kernel_rfl) (by decide) (by decide) rfl (by decide) ⟨⟨rfl,rfl⟩,⟨by decide,rfl,rfl⟩,trivial⟩
instance:dx prog 127 0 0:=⟨dj.mk' 0 _ underlying127 rfl fP⟩
instance:dx prog 127 1 1:=⟨dj.mk' 1 _ underlying127 rfl iP⟩
instance:lK prog 129 10:=⟨sizeOf129⟩
instance:jo prog 129 true:=⟨isAgg129⟩
instance:dQ prog 129 [.v (.int .i64 0),.v (.int .i64 0),.v (.int .i64 0),.v (.int .i64 0),.v (.int .i64 0),.s 1 0 λ_ _=> .j,.s 1 0 λ_ _=> .j,.s 1 0 λ_ _=> .j,.v (.int .i64 0),.v (.int .i64 0)]:=dQ.mk' (i:=t129) (by kernel_rfl) (by decide) (by decide) rfl (by decide) ⟨⟨rfl,rfl⟩,⟨rfl,rfl⟩,⟨rfl,rfl⟩,⟨rfl,rfl⟩,⟨rfl,rfl⟩,⟨by decide,rfl,rfl⟩,⟨by decide,rfl,rfl⟩,⟨by decide,rfl,rfl⟩,⟨rfl,rfl⟩,⟨rfl,rfl⟩,trivial⟩
instance:dx prog 129 0 0:=⟨dj.mk' 0 _ underlying129 rfl fP⟩
instance:dx prog 129 1 1:=⟨dj.mk' 1 _ underlying129 rfl fP⟩
instance:dx prog 129 2 2:=⟨dj.mk' 2 _ underlying129 rfl fP⟩
instance:dx prog 129 3 3:=⟨dj.mk' 3 _ underlying129 rfl fP⟩
instance:dx prog 129 4 4:=⟨dj.mk' 4 _ underlying129 rfl Bw⟩
instance:dx prog 129 5 6:=⟨dj.mk' 5 _ underlying129 rfl iP⟩
instance:dx prog 129 6 7:=⟨dj.mk' 6 _ underlying129 rfl iP⟩
instance:dx prog 129 7 8:=⟨dj.mk' 7 _ underlying129 rfl fP⟩
instance:dx prog 129 8 9:=⟨dj.mk' 8 _ underlying129 rfl fP⟩
instance:j7 prog 23 129:=⟨underlying23⟩
theorem D1:Sz prog 23 1:=sizeOf23
instance:jo prog 23 false:=⟨isAgg23⟩
theorem A2:Sl prog 25 24:=underlying25
instance:j7 prog 25 24:=⟨underlying25⟩
theorem Bj:Sz prog 25 1:=sizeOf25
theorem AG:Ag prog 25 false:=isAgg25
instance:jo prog 25 false:=⟨AG⟩
instance:dQ prog 25 [.s 1 0 λ_ _=> .j]:=dQ.mk' (i:=t25) (by kernel_rfl) (by decide) (by decide) rfl (by decide) ⟨⟨by decide,rfl,rfl⟩,trivial⟩
theorem C1:Sz prog 27 1:=sizeOf27
instance:lK prog 27 1:=⟨C1⟩
instance:jo prog 27 true:=⟨isAgg27⟩
instance:dQ prog 27 [.s 1 0 λ_ _=> .j]:=dQ.mk' (i:=t27) (by kernel_rfl) (by decide) (by decide) rfl (by decide) ⟨⟨by decide,rfl,rfl⟩,trivial⟩
instance:dx prog 27 0 0:=⟨dj.mk' 0 _ underlying27 rfl Bj⟩
instance:lK prog 146 5:=⟨sizeOf146⟩
instance:jo prog 146 true:=⟨isAgg146⟩
instance:dQ prog 146 [.v (.int .i64 0),.v (.int .i64 0),.v (.int .i64 0),.v (.int .i64 0),.v (.int .i64 0)]:=dQ.mk' (i:=t146) (by kernel_rfl) (by decide) (by decide) rfl (by decide) ⟨⟨rfl,rfl⟩,⟨rfl,rfl⟩,⟨rfl,rfl⟩,⟨rfl,rfl⟩,⟨rfl,rfl⟩,trivial⟩
instance:dx prog 146 0 0:=⟨dj.mk' 0 _ underlying146 rfl fP⟩
instance:dx prog 146 1 1:=⟨dj.mk' 1 _ underlying146 rfl fP⟩
instance:dx prog 146 2 2:=⟨dj.mk' 2 _ underlying146 rfl fP⟩
instance:dx prog 146 3 3:=⟨dj.mk' 3 _ underlying146 rfl fP⟩
instance:dx prog 146 4 4:=⟨dj.mk' 4 _ underlying146 rfl fP⟩
instance:j7 prog 28 146:=⟨underlying28⟩
theorem D6:Sz prog 28 1:=sizeOf28
instance:jo prog 28 false:=⟨isAgg28⟩
instance:lK prog 132 2:=⟨sizeOf132⟩
instance:jo prog 132 true:=⟨isAgg132⟩
instance:dQ prog 132 [.v (.int .i64 0),.s 1 0 λ_ _=> .j]:=dQ.mk' (i:=t132) (by kernel_rfl) (by decide) (by decide) rfl (by decide) ⟨⟨rfl,rfl⟩,⟨by decide,rfl,rfl⟩,trivial⟩
instance:dx prog 132 0 0:=⟨dj.mk' 0 _ underlying132 rfl fP⟩
instance:dx prog 132 1 1:=⟨dj.mk' 1 _ underlying132 rfl Bj⟩
instance:j7 prog 29 132:=⟨underlying29⟩
theorem Eb:Sz prog 29 1:=sizeOf29
instance:jo prog 29 false:=⟨isAgg29⟩
instance:lK prog 134 2:=⟨sizeOf134⟩
instance:jo prog 134 true:=⟨isAgg134⟩
instance:dQ prog 134 [.v (.int .i64 0),.s 1 0 λ_ _=> .j]:=dQ.mk' (i:=t134) (by kernel_rfl) (by decide) (by decide) rfl (by decide) ⟨⟨rfl,rfl⟩,⟨by decide,rfl,rfl⟩,trivial⟩
instance:dx prog 134 0 0:=⟨dj.mk' 0 _ underlying134 rfl fP⟩
instance:dx prog 134 1 1:=⟨dj.mk' 1 _ underlying134 rfl iP⟩
instance:j7 prog 30 134:=⟨underlying30⟩
theorem Ek:Sz prog 30 1:=sizeOf30
instance:jo prog 30 false:=⟨isAgg30⟩
instance:lK prog 32 11:=⟨sizeOf32⟩
instance:jo prog 32 true:=⟨isAgg32⟩
instance:dQ prog 32 [.v (.int .i64 0),.v (.int .i64 0),.s 1 0 λ_ _=> .j,.s 10 0 λ_ _=> .j,.s 1 0 λ_ _=> .j,.s 1 0 λ_ _=> .j,.s 5 0 λ_ _=> .j,.s 2 0 λ_ _=> .j,.s 2 0 λ_ _=> .j,.s 1 0 λ_ _=> .j,.s 1 0 λ_ _=> .j]:=dQ.mk' (i:=t32) (by kernel_rfl) (by decide) (by decide) rfl (by decide) ⟨⟨rfl,rfl⟩,⟨rfl,rfl⟩,⟨by decide,rfl,rfl⟩,⟨by decide,rfl,rfl⟩,⟨by decide,rfl,rfl⟩,⟨by decide,rfl,rfl⟩,⟨by decide,rfl,rfl⟩,⟨by decide,rfl,rfl⟩,⟨by decide,rfl,rfl⟩,⟨by decide,rfl,rfl⟩,⟨by decide,rfl,rfl⟩,trivial⟩
instance:dx prog 32 0 0:=⟨dj.mk' 0 _ underlying32 rfl fP⟩
instance:dx prog 32 1 1:=⟨dj.mk' 1 _ underlying32 rfl fP⟩
instance:dx prog 32 2 2:=⟨dj.mk' 2 _ underlying32 rfl D3⟩
instance:dx prog 32 3 3:=⟨dj.mk' 3 _ underlying32 rfl D1⟩
instance:dx prog 32 4 4:=⟨dj.mk' 4 _ underlying32 rfl iP⟩
instance:dx prog 32 5 5:=⟨dj.mk' 5 _ underlying32 rfl C1⟩
instance:dx prog 32 6 6:=⟨dj.mk' 6 _ underlying32 rfl D6⟩
instance:dx prog 32 7 7:=⟨dj.mk' 7 _ underlying32 rfl Eb⟩
instance:dx prog 32 8 8:=⟨dj.mk' 8 _ underlying32 rfl Ek⟩
instance:dx prog 32 9 9:=⟨dj.mk' 9 _ underlying32 rfl iP⟩
instance:dx prog 32 10 10:=⟨dj.mk' 10 _ underlying32 rfl iP⟩
theorem BC:Sz prog 156 4:=sizeOf156
instance:lK prog 156 4:=⟨BC⟩
theorem By:Ag prog 156 true:=isAgg156
instance:jo prog 156 true:=⟨By⟩
instance:dQ prog 156 [.v (.int .i64 0),.v (.int .i64 0),.v (.int .i64 0),.v (.int .i64 0)]:=dQ.mk' (i:=t156) (by kernel_rfl) (by decide) (by decide) rfl (by decide) ⟨⟨rfl,rfl⟩,⟨rfl,rfl⟩,⟨rfl,rfl⟩,⟨rfl,rfl⟩,trivial⟩
instance:dx prog 156 0 0:=⟨dj.mk' 0 _ underlying156 rfl fP⟩
instance:dx prog 156 1 1:=⟨dj.mk' 1 _ underlying156 rfl fP⟩
instance:dx prog 156 2 2:=⟨dj.mk' 2 _ underlying156 rfl fP⟩
instance:dx prog 156 3 3:=⟨dj.mk' 3 _ underlying156 rfl fP⟩
instance:Cl prog 156 [(0,1),(1,1),(2,1),(3,1)]:=⟨⟨_,underlying156,λw=>by simp[sizeOf3]⟩⟩
theorem CS:Sl prog 141 156:=underlying141
instance:j7 prog 141 156:=⟨underlying141⟩
theorem Ae:Sz prog 141 1:=sizeOf141
instance:lK prog 141 1:=⟨Ae⟩
theorem zh:Ag prog 141 false:=isAgg141
instance:jo prog 141 false:=⟨zh⟩
instance:dQ prog 141 [.s 4 0 λ_ _=> .j]:=dQ.mk' (i:=t141) (by kernel_rfl) (by decide) (by decide) rfl (by decide) ⟨⟨by decide,rfl,rfl⟩,trivial⟩
theorem A6:Sl prog 34 141:=underlying34
instance:j7 prog 34 141:=⟨underlying34⟩
theorem C9:Sz prog 34 1:=sizeOf34
instance:jo prog 34 false:=⟨isAgg34⟩
instance:dQ prog 34 [.s 1 0 λ_ _=> .j]:=dQ.mk' (i:=t34) (by kernel_rfl) (by decide) (by decide) rfl (by decide) ⟨⟨by decide,rfl,rfl⟩,trivial⟩
theorem yG:Sz prog 75 2:=sizeOf75
instance:lK prog 75 2:=⟨yG⟩
theorem Cb:Ag prog 75 true:=isAgg75
instance:jo prog 75 true:=⟨Cb⟩
instance:dQ prog 75 [.v (.int .i64 0),.s 1 0 λ_ _=> .j]:=dQ.mk' (i:=t75) (by kernel_rfl) (by decide) (by decide) rfl (by decide) ⟨⟨rfl,rfl⟩,⟨by decide,rfl,rfl⟩,trivial⟩
instance:dx prog 75 0 0:=⟨dj.mk' 0 _ underlying75 rfl fP⟩
instance:dx prog 75 1 1:=⟨dj.mk' 1 _ underlying75 rfl iP⟩
instance:Cl prog 75 [(0,1),(1,1)]:=⟨⟨_,underlying75,λw=>by simp[sizeOf24,sizeOf3]⟩⟩
theorem fL:Sz prog 81 10:=sizeOf81
instance:lK prog 81 10:=⟨fL⟩
theorem DB:Ag prog 81 true:=isAgg81
instance:jo prog 81 true:=⟨DB⟩
instance:dQ prog 81 [.v (.int .i64 0),.v (.int .i64 0),.v (.int .i64 0),.v (.int .i64 0),.v (.int .i64 0),.s 1 0 λ_ _=> .j,.s 1 0 λ_ _=> .j,.s 1 0 λ_ _=> .j,.v (.int .i64 0),.v (.int .i64 0)]:=dQ.mk' (i:=t81) (by kernel_rfl) (by decide) (by decide) rfl (by decide) ⟨⟨rfl,rfl⟩,⟨rfl,rfl⟩,⟨rfl,rfl⟩,⟨rfl,rfl⟩,⟨rfl,rfl⟩,⟨by decide,rfl,rfl⟩,⟨by decide,rfl,rfl⟩,⟨by decide,rfl,rfl⟩,⟨rfl,rfl⟩,⟨rfl,rfl⟩,trivial⟩
instance:dx prog 81 0 0:=⟨dj.mk' 0 _ underlying81 rfl fP⟩
instance:dx prog 81 1 1:=⟨dj.mk' 1 _ underlying81 rfl fP⟩
instance:dx prog 81 2 2:=⟨dj.mk' 2 _ underlying81 rfl fP⟩
instance:dx prog 81 3 3:=⟨dj.mk' 3 _ underlying81 rfl fP⟩
instance:dx prog 81 4 4:=⟨dj.mk' 4 _ underlying81 rfl yG⟩
instance:dx prog 81 5 6:=⟨dj.mk' 5 _ underlying81 rfl iP⟩
instance:dx prog 81 6 7:=⟨dj.mk' 6 _ underlying81 rfl iP⟩
instance:dx prog 81 7 8:=⟨dj.mk' 7 _ underlying81 rfl fP⟩
instance:dx prog 81 8 9:=⟨dj.mk' 8 _ underlying81 rfl fP⟩
instance:Cl prog 81 [(0,1),(1,1),(2,1),(3,1),(4,2),(6,1),(7,1),(8,1),(9,1)]:=⟨⟨_,underlying81,λw=>by simp[sizeOf24,sizeOf3,sizeOf75]⟩⟩
theorem f_:Sl prog 35 81:=underlying35
instance:j7 prog 35 81:=⟨underlying35⟩
theorem Eg:Sz prog 35 1:=sizeOf35
instance:jo prog 35 false:=⟨isAgg35⟩
instance:dQ prog 35 [.s 10 0 λ_ _=> .j]:=dQ.mk' (i:=t35) (by kernel_rfl) (by decide) (by decide) rfl (by decide) ⟨⟨by decide,rfl,rfl⟩,trivial⟩
theorem gx:Sz prog 72 5:=sizeOf72
instance:lK prog 72 5:=⟨gx⟩
theorem Dq:Ag prog 72 true:=isAgg72
instance:jo prog 72 true:=⟨Dq⟩
instance:dQ prog 72 [.v (.int .i64 0),.v (.int .i64 0),.v (.int .i64 0),.v (.int .i64 0),.v (.int .i64 0)]:=dQ.mk' (i:=t72) (by kernel_rfl) (by decide) (by decide) rfl (by decide) ⟨⟨rfl,rfl⟩,⟨rfl,rfl⟩,⟨rfl,rfl⟩,⟨rfl,rfl⟩,⟨rfl,rfl⟩,trivial⟩
instance:dx prog 72 0 0:=⟨dj.mk' 0 _ underlying72 rfl fP⟩
instance:dx prog 72 1 1:=⟨dj.mk' 1 _ underlying72 rfl fP⟩
instance:dx prog 72 2 2:=⟨dj.mk' 2 _ underlying72 rfl fP⟩
instance:dx prog 72 3 3:=⟨dj.mk' 3 _ underlying72 rfl fP⟩
instance:dx prog 72 4 4:=⟨dj.mk' 4 _ underlying72 rfl fP⟩
theorem gB:Sl prog 36 72:=underlying36
instance:j7 prog 36 72:=⟨underlying36⟩
theorem DD:Sz prog 36 1:=sizeOf36
instance:jo prog 36 false:=⟨isAgg36⟩
instance:dQ prog 36 [.s 5 0 λ_ _=> .j]:=dQ.mk' (i:=t36) (by kernel_rfl) (by decide) (by decide) rfl (by decide) ⟨⟨by decide,rfl,rfl⟩,trivial⟩
theorem gG:Sz prog 86 2:=sizeOf86
instance:lK prog 86 2:=⟨gG⟩
instance:jo prog 86 true:=⟨isAgg86⟩
instance:dQ prog 86 [.v (.int .i64 0),.s 1 0 λ_ _=> .j]:=dQ.mk' (i:=t86) (by kernel_rfl) (by decide) (by decide) rfl (by decide) ⟨⟨rfl,rfl⟩,⟨by decide,rfl,rfl⟩,trivial⟩
instance:dx prog 86 0 0:=⟨dj.mk' 0 _ underlying86 rfl fP⟩
instance:dx prog 86 1 1:=⟨dj.mk' 1 _ underlying86 rfl iP⟩
instance:Cl prog 86 [(0,1),(1,1)]:=⟨⟨_,underlying86,λw=>by simp[sizeOf24,sizeOf3]⟩⟩
theorem gR:Sl prog 37 86:=underlying37
instance:j7 prog 37 86:=⟨underlying37⟩
theorem DZ:Sz prog 37 1:=sizeOf37
instance:jo prog 37 false:=⟨isAgg37⟩
instance:dQ prog 37 [.s 2 0 λ_ _=> .j]:=dQ.mk' (i:=t37) (by kernel_rfl) (by decide) (by decide) rfl (by decide) ⟨⟨by decide,rfl,rfl⟩,trivial⟩
theorem gh:Sz prog 96 2:=sizeOf96
instance:lK prog 96 2:=⟨gh⟩
theorem Dz:Ag prog 96 true:=isAgg96
instance:jo prog 96 true:=⟨Dz⟩
instance:dQ prog 96 [.v (.int .i64 0),.s 1 0 λ_ _=> .j]:=dQ.mk' (i:=t96) (by kernel_rfl) (by decide) (by decide) rfl (by decide) ⟨⟨rfl,rfl⟩,⟨by decide,rfl,rfl⟩,trivial⟩
instance:dx prog 96 0 0:=⟨dj.mk' 0 _ underlying96 rfl fP⟩
instance:dx prog 96 1 1:=⟨dj.mk' 1 _ underlying96 rfl iP⟩
instance:Cl prog 96 [(0,1),(1,1)]:=⟨⟨_,underlying96,λw=>by simp[sizeOf24,sizeOf3]⟩⟩
theorem gE:Sl prog 38 96:=underlying38
instance:j7 prog 38 96:=⟨underlying38⟩
theorem Dh:Sz prog 38 1:=sizeOf38
instance:jo prog 38 false:=⟨isAgg38⟩
instance:dQ prog 38 [.s 2 0 λ_ _=> .j]:=dQ.mk' (i:=t38) (by kernel_rfl) (by decide) (by decide) rfl (by decide) ⟨⟨by decide,rfl,rfl⟩,trivial⟩
theorem A_:Sz prog 40 9:=sizeOf40
instance:lK prog 40 9:=⟨A_⟩
theorem AL:Ag prog 40 true:=isAgg40
instance:jo prog 40 true:=⟨AL⟩
instance:dQ prog 40 [.v (.int .i64 0),.v (.int .i64 0),.s 1 0 λ_ _=> .j,.s 10 0 λ_ _=> .j,.s 5 0 λ_ _=> .j,.s 2 0 λ_ _=> .j,.s 2 0 λ_ _=> .j,.s 1 0 λ_ _=> .j,.s 1 0 λ_ _=> .j]:=dQ.mk' (i:=t40) (by kernel_rfl) (by decide) (by decide) rfl (by decide) ⟨⟨rfl,rfl⟩,⟨rfl,rfl⟩,⟨by decide,rfl,rfl⟩,⟨by decide,rfl,rfl⟩,⟨by decide,rfl,rfl⟩,⟨by decide,rfl,rfl⟩,⟨by decide,rfl,rfl⟩,⟨by decide,rfl,rfl⟩,⟨by decide,rfl,rfl⟩,trivial⟩
instance:dx prog 40 0 0:=⟨dj.mk' 0 _ underlying40 rfl fP⟩
instance:dx prog 40 1 1:=⟨dj.mk' 1 _ underlying40 rfl fP⟩
instance:dx prog 40 2 2:=⟨dj.mk' 2 _ underlying40 rfl C9⟩
instance:dx prog 40 3 3:=⟨dj.mk' 3 _ underlying40 rfl Eg⟩
instance:dx prog 40 4 4:=⟨dj.mk' 4 _ underlying40 rfl DD⟩
instance:dx prog 40 5 5:=⟨dj.mk' 5 _ underlying40 rfl DZ⟩
instance:dx prog 40 6 6:=⟨dj.mk' 6 _ underlying40 rfl Dh⟩
instance:dx prog 40 7 7:=⟨dj.mk' 7 _ underlying40 rfl iP⟩
instance:dx prog 40 8 8:=⟨dj.mk' 8 _ underlying40 rfl iP⟩
instance:Cl prog 40 [(0,1),(1,1),(2,1),(3,1),(4,1),(5,1),(6,1),(7,1),(8,1)]:=⟨⟨_,underlying40,λw=>by simp[sizeOf24,sizeOf3,sizeOf34,sizeOf35,sizeOf36,sizeOf37,sizeOf38]⟩⟩
theorem x9:Sz prog 77 10:=sizeOf77
instance:lK prog 77 10:=⟨x9⟩
theorem B9:Ag prog 77 true:=isAgg77
instance:jo prog 77 true:=⟨B9⟩
instance:dQ prog 77 [.v (.int .i64 0),.v (.int .i64 0),.v (.int .i64 0),.v (.int .i64 0),.v (.int .i64 0),.s 1 0 λ_ _=> .j,.s 1 0 λ_ _=> .j,.s 1 0 λ_ _=> .j,.v (.int .i64 0),.v (.int .i64 0)]:=dQ.mk' (i:=t77) (by kernel_rfl) (by decide) (by decide) rfl (by decide) ⟨⟨rfl,rfl⟩,⟨rfl,rfl⟩,⟨rfl,rfl⟩,⟨rfl,rfl⟩,⟨rfl,rfl⟩,⟨by decide,rfl,rfl⟩,⟨by decide,rfl,rfl⟩,⟨by decide,rfl,rfl⟩,⟨rfl,rfl⟩,⟨rfl,rfl⟩,trivial⟩
instance:dx prog 77 0 0:=⟨dj.mk' 0 _ underlying77 rfl fP⟩
instance:dx prog 77 1 1:=⟨dj.mk' 1 _ underlying77 rfl fP⟩
instance:dx prog 77 2 2:=⟨dj.mk' 2 _ underlying77 rfl fP⟩
instance:dx prog 77 3 3:=⟨dj.mk' 3 _ underlying77 rfl fP⟩
instance:dx prog 77 4 4:=⟨dj.mk' 4 _ underlying77 rfl yG⟩
theorem rl:dj prog 77 5 6:=dj.mk' 5 _ underlying77 rfl iP
instance:dx prog 77 5 6:=⟨rl⟩
instance:dx prog 77 6 7:=⟨dj.mk' 6 _ underlying77 rfl iP⟩
instance:dx prog 77 7 8:=⟨dj.mk' 7 _ underlying77 rfl fP⟩
instance:dx prog 77 8 9:=⟨dj.mk' 8 _ underlying77 rfl fP⟩
theorem zz:Sl prog 42 77:=underlying42
instance:j7 prog 42 77:=⟨underlying42⟩
theorem DY:Sz prog 42 1:=sizeOf42
theorem zB:Ag prog 42 false:=isAgg42
instance:jo prog 42 false:=⟨zB⟩
instance:dQ prog 42 [.s 10 0 λ_ _=> .j]:=dQ.mk' (i:=t42) (by kernel_rfl) (by decide) (by decide) rfl (by decide) ⟨⟨by decide,rfl,rfl⟩,trivial⟩
theorem BK:Sz prog 43 1:=sizeOf43
instance:lK prog 43 1:=⟨BK⟩
theorem Dj:Ag prog 43 true:=isAgg43
instance:jo prog 43 true:=⟨Dj⟩
instance:dQ prog 43 [.s 1 0 λ_ _=> .j]:=dQ.mk' (i:=t43) (by kernel_rfl) (by decide) (by decide) rfl (by decide) ⟨⟨by decide,rfl,rfl⟩,trivial⟩
instance:dx prog 43 0 0:=⟨dj.mk' 0 _ underlying43 rfl Bj⟩
theorem x5:Sz prog 83 2:=sizeOf83
instance:lK prog 83 2:=⟨x5⟩
theorem BR:Ag prog 83 true:=isAgg83
instance:jo prog 83 true:=⟨BR⟩
instance:dQ prog 83 [.v (.int .i64 0),.s 1 0 λ_ _=> .j]:=dQ.mk' (i:=t83) (by kernel_rfl) (by decide) (by decide) rfl (by decide) ⟨⟨rfl,rfl⟩,⟨by decide,rfl,rfl⟩,trivial⟩
instance:dx prog 83 0 0:=⟨dj.mk' 0 _ underlying83 rfl fP⟩
theorem rQ:dj prog 83 1 1:=dj.mk' 1 _ underlying83 rfl Bj
instance:dx prog 83 1 1:=⟨rQ⟩
theorem zU:Sl prog 44 83:=underlying44
instance:j7 prog 44 83:=⟨underlying44⟩
theorem Ed:Sz prog 44 1:=sizeOf44
theorem z1:Ag prog 44 false:=isAgg44
instance:jo prog 44 false:=⟨z1⟩
instance:dQ prog 44 [.s 2 0 λ_ _=> .j]:=dQ.mk' (i:=t44) (by kernel_rfl) (by decide) (by decide) rfl (by decide) ⟨⟨by decide,rfl,rfl⟩,trivial⟩
theorem Dr:Sz prog 46 11:=sizeOf46
instance:lK prog 46 11:=⟨Dr⟩
theorem DE:Ag prog 46 true:=isAgg46
instance:jo prog 46 true:=⟨DE⟩
instance:dQ prog 46 [.v (.int .i64 0),.v (.int .i64 0),.s 1 0 λ_ _=> .j,.s 10 0 λ_ _=> .j,.s 1 0 λ_ _=> .j,.s 1 0 λ_ _=> .j,.s 5 0 λ_ _=> .j,.s 2 0 λ_ _=> .j,.s 2 0 λ_ _=> .j,.s 1 0 λ_ _=> .j,.s 1 0 λ_ _=> .j]:=dQ.mk' (i:=t46) (by kernel_rfl) (by decide) (by decide) rfl (by decide) ⟨⟨rfl,rfl⟩,⟨rfl,rfl⟩,⟨by decide,rfl,rfl⟩,⟨by decide,rfl,rfl⟩,⟨by decide,rfl,rfl⟩,⟨by decide,rfl,rfl⟩,⟨by decide,rfl,rfl⟩,⟨by decide,rfl,rfl⟩,⟨by decide,rfl,rfl⟩,⟨by decide,rfl,rfl⟩,⟨by decide,rfl,rfl⟩,trivial⟩
instance:dx prog 46 0 0:=⟨dj.mk' 0 _ underlying46 rfl fP⟩
instance:dx prog 46 1 1:=⟨dj.mk' 1 _ underlying46 rfl fP⟩
instance:dx prog 46 2 2:=⟨dj.mk' 2 _ underlying46 rfl C9⟩
theorem oA:dj prog 46 3 3:=dj.mk' 3 _ underlying46 rfl DY
instance:dx prog 46 3 3:=⟨oA⟩
theorem wC:dj prog 46 4 4:=dj.mk' 4 _ underlying46 rfl iP
instance:dx prog 46 4 4:=⟨wC⟩
instance:dx prog 46 5 5:=⟨dj.mk' 5 _ underlying46 rfl BK⟩
instance:dx prog 46 6 6:=⟨dj.mk' 6 _ underlying46 rfl DD⟩
theorem oD:dj prog 46 7 7:=dj.mk' 7 _ underlying46 rfl Ed
instance:dx prog 46 7 7:=⟨oD⟩
instance:dx prog 46 8 8:=⟨dj.mk' 8 _ underlying46 rfl Dh⟩
instance:dx prog 46 9 9:=⟨dj.mk' 9 _ underlying46 rfl iP⟩
instance:dx prog 46 10 10:=⟨dj.mk' 10 _ underlying46 rfl iP⟩
instance:j7 prog 117 4:=⟨underlying117⟩
theorem C6:Sl prog 216 5:=underlying216
instance:j7 prog 216 5:=⟨underlying216⟩
instance:j7 prog 218 9:=⟨underlying218⟩
theorem lW(x0:Int)(x1:Int)(x2:Int)(x3:Int)(y0:Int)(y1:Int)(y2:Int)(y3:Int)(x y:Operand)(w:World):(do eqGuard .eql 156 x y (.agg [iv x0,iv x1,iv x2,iv x3].toArray) (.agg [iv y0,iv y1,iv y2,iv y3].toArray);binOp .eql 156 (.agg [iv x0,iv x1,iv x2,iv x3].toArray) (.agg [iv y0,iv y1,iv y2,iv y3].toArray)).run prog w= .ok (.bool (decide (x0=y0∧x1=y1∧x2=y2∧x3=y3))) w:=by
 have hg:∀w,(eqGuard .eql 156 x y (.agg [iv x0,iv x1,iv x2,iv x3].toArray) (.agg [iv y0,iv y1,iv y2,iv y3].toArray)).run prog w= .ok () w:=by
  intro w;have:prog.eqGuardType prog.depth 156=false:=by kernel_rfl
  simp[eqGuard,this]
 have u3:=underlying3;have a3:=isAgg3;have z3:=sizeOf3;have hS:prog.underlying 156=some (.struct (prog.fieldsOf 156)):=by kernel_rfl
 have hp:prog.stoodInHeld 156=false:=by kernel_rfl
 simp only[Sem.run_bind,hg,Result.andThen];rw[run_eql_struct,show(10000:Nat)=9999+1 from rfl,run_equalIn_agg w 9999 156 _ _ hS hp];simp only[Program.fieldsOf,underlying156]
 go_simp
 by_cases h0:x0=y0<;>by_cases h1:x1=y1<;>by_cases h2:x2=y2<;>by_cases h3:x3=y3<;>simp[h0,h1,h2,h3]
end Go.Proofs.YtekcnnngjoonbaaGreat.VM
