/- Contracts. No conditions. -/
import Derived.Test.YthjfgpkjooaahaaGreatCUA
set_option linter.all false
set_option maxHeartbeats 8000000
set_option maxRecDepth 10000
namespace Go.Proofs.YthjfgpkjooaahaaGreat.VM
open Go Go.RowKit Go.Proofs
theorem procOk1_con (u : DUnix) (f : Int) : Con Tryz.prog 265 [.v (iv f), .p base [] 9 0 0] [.rt base .ro (tr [u])] (fun y _ => y = .v (.bool (!(fdOk u f)))) := by
 refine ob Tryz.func265 Tryz.ntmps265 ?_
 refine go [.R,.a,.Z,.R,.m,.b,.N,.m] (k := ?_)
 apply AWL.cut 4
 ·intro Kg1
  refine AWL.split 6 rfl (fun g1 => ?_) (fun g1 => ?_)
  ·refine go [.G,.m,.N] (k := ?_)
   refine AWL.step rfl g1 (Stp.callV rfl (by decide) Tryz.call266 rfl rfl (openAtI_con u _)) ?_
   refine go [.N,.b] (k := ?_)
   exact wjT 10 [7, 8, 9, 10] (ifT g1 _ undef) Kg1
  ·refine go [.x,.x,.x,.x] (k := ?_)
   exact wjF 10 [7, 8, 9, 10] (ifF g1 undef _) Kg1
 refine qq (Qt.pickAnd rfl rfl rfl) ?_
 refine go [.a,.Z] (k := ?_)
 refine rt1 3 ?_
 refine rb ?_
 simp only [fdOk]
 grind only
theorem procOk2_con (f : Int) : Con Tryz.prog 267 [.v (iv f)] [] (fun y _ => y = .v (.bool (!(f == -1)))) := by
 refine ob Tryz.func267 Tryz.ntmps267 ?_
 refine go [.R,.a,.Z,.R,.m,.b,.N,.a,.Z] (k := ?_)
 refine rt1 2 ?_
 rfl
theorem ixIU_con {fid : FuncId} {p : Int → Bool} (u0 : DUnix) (hE : Ent Tryz.prog fid) (hp : ∀ x : Int, Con Tryz.prog fid [.v (iv x), .p base [] 9 0 0] [.rt base .ro (tr [u0])] (fun y _ => y = .v (.bool (p x)))) (l : List Int) : Con Tryz.prog 306 [.h base [], .f fid [.p (base + 1) [] 9 0 0]] [.rt base .ro (tr l), .rt (base + 1) .ro (tr [u0])] (fun y _ => y = .v (iv (ixOf p l))) := by
 refine ob Tryz.func306 Tryz.ntmps306 ?_
 refine AW.len base [] rfl (by simp [Okp]) rfl (fun hl => ?_)
 refine go [.R,.a,.Z,.R2,.m,.h,.N,.m,.Z] (k := ?_)
 refine AW.block ?_
 refine AW.loopW (fun i : IxInv p l => [.sl 8 (.v (iv i.k)), .sl 7 (.v (iv l.length)), .sl 0 (.h base []), .sl 1 (.f fid [.p (base + 1) [] 9 0 0]), .rt base .ro (tr l), .rt (base + 1) .ro (tr [u0])]) (fun i => l.length - i.k) ⟨0, Nat.zero_le _, rfl⟩ (ws) ?_
 intro i
 have hle := i.le
 refine go [.R,.b,.Z] (k := ?_)
 refine AW.seq ?_
 refine cd (fun c1 => ?_) fun c1 => ?_
 ·try simp only [cnd] at c1
  refine jd (AW.seq (AW.block (sr ?_)))
  refine go [.m,.N,.a,.Z,.R,.m,.m,.N,.m,.i,.l,.N] (k := ?_)
  refine cv hE rfl rfl (Con.simH (hp (l.getD i.k En.dflt)) ⟨⟨_, rfl, (sim_one (fun c hc => match c, hc with | 0, _ => tsr | 1, _ => tsr | 2, _ => tsr | 3, _ => tsr | 4, _ => tsr | 5, _ => tsr | 6, _ => tsr | 7, _ => tsr | 8, _ => tsr | c + 9, hc => absurd hc (by simp only [En.n]; omega)))⟩, trivial⟩ rfl rfl rfl) ?_
  refine go [.Z] (k := ?_)
  refine cd (fun c2 => ?_) fun c2 => ?_
  ·try simp only [cnd] at c2
   refine go [.R,.m,.N,.a,.Z] (k := ?_)
   refine rt1 4 ?_
   rw [ixOf_hit i En.dflt (by omega) c2]
   rfl
  try simp only [cnd] at c2
  refine go [.J,.R1,.b,.m,.Z] (k := ?_)
  refine ⟨⟨i.k + 1, by omega, i.next En.dflt (by omega) c2⟩, ws, ?_⟩
  show l.length - (i.k + 1) < l.length - i.k
  omega
 try simp only [cnd] at c1
 refine AW.exit ?_
 dsimp only [thenQ, blockQ, reduceIte]
 refine go [.R,.a,.Z] (k := ?_)
 refine rt1 4 ?_
 rw [ixOf_none i (by omega)]
 rfl
theorem hasIU_con {fid : FuncId} {p : Int → Bool} (u0 : DUnix) (hE : Ent Tryz.prog fid) (hp : ∀ x : Int, Con Tryz.prog fid [.v (iv x), .p base [] 9 0 0] [.rt base .ro (tr [u0])] (fun y _ => y = .v (.bool (p x)))) (l : List Int) : Con Tryz.prog 255 [.h base [], .f fid [.p (base + 1) [] 9 0 0]] [.rt base .ro (tr l), .rt (base + 1) .ro (tr [u0])] (fun y _ => y = .v (.bool (l.any p))) := by
 refine ob Tryz.func255 Tryz.ntmps255 ?_
 refine go [.R,.a,.Z,.R,.m,.m,.N] (k := ?_)
 refine cv Tryz.call306 rfl rfl (Con.simH (ixIU_con u0 hE hp l) ⟨⟨_, rfl, tsr⟩, ⟨_, rfl, (sim_one (fun c hc => match c, hc with | 0, _ => tsr | 1, _ => tsr | 2, _ => tsr | 3, _ => tsr | 4, _ => tsr | 5, _ => tsr | 6, _ => tsr | 7, _ => tsr | 8, _ => tsr | c + 9, hc => absurd hc (by simp only [En.n]; omega)))⟩, trivial⟩ rfl rfl rfl) ?_
 refine go [.N,.b,.a,.Z] (k := ?_)
 refine rt1 4 ?_
 rw [← ixOf_ge]
 rfl
theorem any_fd (l : List Int) (p : Int → Bool) : (l.any fun x => !(p x)) = !(l.all p) := by rw [Bool.eq_iff_iff]; simp
end Go.Proofs.YthjfgpkjooaahaaGreat.VM

