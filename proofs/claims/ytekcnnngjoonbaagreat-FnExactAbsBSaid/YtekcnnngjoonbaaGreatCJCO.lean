/- Contracts. No conditions. -/
import Derived.Test.YtekcnnngjoonbaaGreatCN5
set_option linter.all false
set_option maxHeartbeats 8000000
set_option maxRecDepth 10000
namespace Go.Proofs.YtekcnnngjoonbaaGreat.VM
open Go Go.RowKit Go.Proofs
theorem compare_con (a b : Int) : Con Tryz.prog 48 [.v (iv a), .v (iv b)] [] (fun y _ => y = .v (iv (cmpI a b))) := by
 refine ob Tryz.func48 Tryz.ntmps48 ?_
 refine sr ?_
 refine qn ?_
 refine AW.seq (AW.block (sr ?_))
 refine qm ?_
 refine mn ?_
 refine qb ?_
 refine qn ?_
 refine cd (fun c1 => ?_) fun c1 => ?_
 ·try simp only [cnd] at c1
  refine sr ?_
  refine qr 4 ?_
  rw [show cmpI a b = -1 from if_pos (by omega)]
  rfl
 try simp only [cnd] at c1
 refine sr ?_
 refine mn ?_
 refine qm ?_
 refine qb ?_
 refine qn ?_
 refine cd (fun c2 => ?_) fun c2 => ?_
 ·try simp only [cnd] at c2
  refine sr ?_
  refine qr 4 ?_
  rw [show cmpI a b = 1 from (if_neg (by omega)).trans (if_pos (by omega))]
  rfl
 try simp only [cnd] at c2
 refine jd (sr ?_)
 refine qr 4 ?_
 rw [show cmpI a b = 0 from (if_neg (by omega)).trans (if_neg (by omega))]
 rfl
theorem cmpOpen_con (a b : DOpen) : Con Tryz.prog 47 [.g [.v (iv a.Id), .v (iv a.Kind), .v (iv a.Target), .v (iv a.Off), .v (iv a.Refs)], .g [.v (iv b.Id), .v (iv b.Kind), .v (iv b.Target), .v (iv b.Off), .v (iv b.Refs)]] [] (fun y _ => y = .v (iv (cmpI (DOpen.Id a) (DOpen.Id b)))) := by
 refine ob Tryz.func47 Tryz.ntmps47 ?_
 refine sr ?_
 refine bx ?_
 refine nm ?_
 refine bx ?_
 refine nm ?_
 refine qs' ?_
 refine qq (fA fl72_0) ?_
 refine ql ag3 ?_
 refine nm ?_
 refine qq (fA fl72_0) ?_
 refine ql ag3 ?_
 refine cv Tryz.call48 rfl rfl (compare_con _ _) ?_
 refine nm ?_
 refine qr 4 ?_
 rfl
end Go.Proofs.YtekcnnngjoonbaaGreat.VM
