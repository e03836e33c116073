/- Contracts. No conditions. -/
import Derived.Test.YtekcnnngjoonbaaGreatCN5
set_option linter.all false
set_option maxHeartbeats 8000000
set_option maxRecDepth 10000
namespace Go.Proofs.YtekcnnngjoonbaaGreat.VM
open Go Go.RowKit Go.Proofs
structure CProc where
 f0 : Int
 f1 : Int
 f2 : Int
 f3 : Int
 f4 : Int
 f5a : Option Addr
 f5l : Nat
 f5c : Nat
 f6a : Option Addr
 f6l : Nat
 f6c : Nat
 f7a : Option Addr
 f7l : Nat
 f7c : Nat
 f8 : Int
 f9 : Int
instance : En CProc := ⟨10, by omega, fun a => [.v (iv a.f0), .v (iv a.f1), .v (iv a.f2), .v (iv a.f3), .v (iv a.f4), .v (.slice a.f5a a.f5l a.f5c), .v (.slice a.f6a a.f6l a.f6c), .v (.slice a.f7a a.f7l a.f7c), .v (iv a.f8), .v (iv a.f9)], fun _ => rfl, fun _ => True, ⟨0, 0, 0, 0, 0, none, 0, 0, none, 0, 0, none, 0, 0, 0, 0⟩⟩
@[go_sem] theorem cs_CProc (a : CProc) : En.cs a = [.v (iv a.f0), .v (iv a.f1), .v (iv a.f2), .v (iv a.f3), .v (iv a.f4), .v (.slice a.f5a a.f5l a.f5c), .v (.slice a.f6a a.f6l a.f6c), .v (.slice a.f7a a.f7l a.f7c), .v (iv a.f8), .v (iv a.f9)] := rfl
theorem cmpProc_con (a b : CProc) : Con Tryz.prog 45 [.g [.v (iv a.f0), .v (iv a.f1), .v (iv a.f2), .v (iv a.f3), .v (iv a.f4), .c, .c, .c, .v (iv a.f8), .v (iv a.f9)], .g [.v (iv b.f0), .v (iv b.f1), .v (iv b.f2), .v (iv b.f3), .v (iv b.f4), .c, .c, .c, .v (iv b.f8), .v (iv b.f9)]] [] (fun y _ => y = .v (iv (cmpI (CProc.f0 a) (CProc.f0 b)))) := by
 refine ob Tryz.func45 Tryz.ntmps45 ?_
 refine sr ?_
 refine bx ?_
 refine nm ?_
 refine bx ?_
 refine nm ?_
 refine qn ?_
 refine AW.seq (AW.block (sr ?_))
 refine qq (fA fl81_0) ?_
 refine ql ag3 ?_
 refine nm ?_
 refine qq (fA fl81_0) ?_
 refine ql ag3 ?_
 refine qb ?_
 refine nm ?_
 refine qn ?_
 refine cd (fun c1 => ?_) fun c1 => ?_
 ·try simp only [cnd] at c1
  refine sr ?_
  refine qr 4 ?_
  rw [show cmpI a.f0 b.f0 = -1 from if_pos (by omega)]
  rfl
 try simp only [cnd] at c1
 refine sr ?_
 refine qq (fA fl81_0) ?_
 refine nm ?_
 refine ql ag3 ?_
 refine qq (fA fl81_0) ?_
 refine ql ag3 ?_
 refine nm ?_
 refine qb ?_
 refine qn ?_
 refine cd (fun c2 => ?_) fun c2 => ?_
 ·try simp only [cnd] at c2
  refine sr ?_
  refine qr 4 ?_
  rw [show cmpI a.f0 b.f0 = 1 from (if_neg (by omega)).trans (if_pos (by omega))]
  rfl
 try simp only [cnd] at c2
 refine jd (sr ?_)
 refine qr 4 ?_
 rw [show cmpI a.f0 b.f0 = 0 from (if_neg (by omega)).trans (if_neg (by omega))]
 rfl
end Go.Proofs.YtekcnnngjoonbaaGreat.VM
