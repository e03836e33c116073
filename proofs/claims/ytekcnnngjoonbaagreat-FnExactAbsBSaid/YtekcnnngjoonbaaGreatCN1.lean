/- Contracts. No conditions. -/
import Derived.Test.YtekcnnngjoonbaaGreatCNV1
set_option linter.all false
set_option maxHeartbeats 8000000
set_option maxRecDepth 10000
namespace Go.Proofs.YtekcnnngjoonbaaGreat.VM
open Go Go.RowKit Go.Proofs
def frame (x : Int) : Bool := decide (0 ≤ x) && decide (x ≤ 15)
theorem frameL (x : Int) : (decide (0 ≤ x) && decide (x < 16)) = frame x := by
 unfold frame
 congr 2
 apply propext; omega
def shapeB (a : DNodes) : Bool := a.Ram.length == 64 && (a.Procs.all (fun p => p.Pages.all frame) && a.Pipes.all (fun p => p.Chunks.all fun c => !(c.length == 0)))
set_option maxHeartbeats 4000000 in
set_option maxRecDepth 10000 in
theorem in_con (x lo hi : Int) : Con Tryz.prog 144 [.v (iv x), .v (iv lo), .v (iv hi)] [] (fun y _ => y = .v (.bool (decide (lo ≤ x) && decide (x ≤ hi)))) := by
 refine ob Tryz.func144 Tryz.ntmps144 ?_
 refine sr ?_
 refine qs' ?_
 refine qm ?_
 refine mn ?_
 refine qb ?_
 refine qm ?_
 apply AWL.cut 3
 ·intro Kg1
  refine AWL.split 10 rfl (fun g1 => ?_) (fun g1 => ?_)
  ·refine qg g1 Qt.move ?_
   refine nm ?_
   refine qg g1 Qt.move ?_
   refine qg g1 (Qt.binOp rfl rfl rfl) ?_
   exact wjT 13 [11, 12, 13] (ifT g1 _ undef) Kg1
  ·refine og g1 ?_
   refine og g1 ?_
   refine og g1 ?_
   exact wjF 13 [11, 12, 13] (ifF g1 undef _) Kg1
 refine qq (Qt.pickAnd rfl rfl rfl) ?_
 refine nm ?_
 refine qr 6 ?_
 rfl
set_option maxHeartbeats 4000000 in
set_option maxRecDepth 10000 in
theorem l12Frame_con (x : Int) : Con Tryz.prog 94 [.v (iv x)] [] (fun y _ => y = .v (.bool (frame x))) := by
 refine ob Tryz.func94 Tryz.ntmps94 ?_
 refine sr ?_
 refine qs' ?_
 refine qm ?_
 refine qb ?_
 refine nm ?_
 refine qm ?_
 apply AWL.cut 2
 ·intro Kg1
  refine AWL.split 5 rfl (fun g1 => ?_) (fun g1 => ?_)
  ·refine qg g1 Qt.move ?_
   refine qg g1 (Qt.binOp rfl rfl rfl) ?_
   refine nm ?_
   exact wjT 7 [6, 7] (ifT g1 _ undef) Kg1
  ·refine og g1 ?_
   refine og g1 ?_
   exact wjF 7 [6, 7] (ifF g1 undef _) Kg1
 refine qq (Qt.pickAnd rfl rfl rfl) ?_
 refine qr 2 ?_
 rw [← frameL]
 rfl
set_option maxHeartbeats 4000000 in
set_option maxRecDepth 10000 in
theorem isFrame_con (x : Int) : Con Tryz.prog 112 [.v (iv x)] [] (fun y _ => y = .v (.bool (frame x))) := by
 refine ob Tryz.func112 Tryz.ntmps112 ?_
 refine sr ?_
 refine qs' ?_
 refine qm ?_
 refine cv Tryz.call144 rfl rfl (in_con _ _ _) ?_
 refine nm ?_
 refine qr 2 ?_
 rfl
theorem ixI_con {fid : FuncId} {p : Int → Bool} (hE : Ent Tryz.prog fid) (hp : ∀ x : Int, Con Tryz.prog fid [.v (iv x)] [] (fun y _ => y = .v (.bool (p x)))) (l : List Int) : Con Tryz.prog 168 [.h base [], .f fid []] [.rt base .ro (tr l)] (fun y _ => y = .v (iv (ixOf p l))) := by
 refine ob Tryz.func168 Tryz.ntmps168 ?_
 refine AW.len base [] rfl (by simp [Okp]) rfl (fun hl => ?_)
 refine sr ?_
 refine qn ?_
 refine sr2 ?_
 refine qm ?_
 refine qh sl24 ?_
 refine nm ?_
 refine qm ?_
 refine nl ?_
 refine AW.block ?_
 refine AW.loopW (fun i : IxInv p l => [.sl 8 (.v (iv i.k)), .sl 7 (.v (iv l.length)), .sl 0 (.h base []), .sl 1 (.f fid []), .rt base .ro (tr l)]) (fun i => l.length - i.k) ⟨0, Nat.zero_le _, rfl⟩ (Weak.sim ⟨rfl, rfl, rfl, rfl, Rf rfl, trivial⟩ rfl rfl) ?_
 intro i
 have hle := i.le
 refine sr ?_
 refine qb ?_
 refine nl ?_
 refine AW.seq ?_
 refine cd (fun c1 => ?_) fun c1 => ?_
 ·try simp only [cnd] at c1
  refine jd (AW.seq (AW.block (sr ?_)))
  refine mn ?_
  refine qs' ?_
  refine qm ?_
  refine mn ?_
  refine qm ?_
  refine qq (ix sl24 sz3) ?_
  refine ql ag3 ?_
  refine nm ?_
  refine cv hE rfl rfl (hp (l.getD i.k En.dflt)) ?_
  refine nc (fun c2 => ?_) fun c2 => ?_
  ·try simp only [cnd] at c2
   refine sr ?_
   refine mn ?_
   refine qr 4 ?_
   rw [ixOf_hit i En.dflt (by omega) c2]
   rfl
  try simp only [cnd] at c2
  refine jd (AW.region ?_)
  refine ba ?_
  refine qm ?_
  refine nl ?_
  refine ⟨⟨i.k + 1, by omega, i.next En.dflt (by omega) c2⟩, Weak.sim ⟨st1, rfl, rfl, rfl, Rf rfl, trivial⟩ rfl rfl, ?_⟩
  show l.length - (i.k + 1) < l.length - i.k
  omega
 try simp only [cnd] at c1
 refine AW.exit ?_
 dsimp only [thenQ, blockQ, reduceIte]
 refine sr ?_
 refine qr 4 ?_
 rw [ixOf_none i (by omega)]
 rfl
theorem hasI_con {fid : FuncId} {p : Int → Bool} (hE : Ent Tryz.prog fid) (hp : ∀ x : Int, Con Tryz.prog fid [.v (iv x)] [] (fun y _ => y = .v (.bool (p x)))) (l : List Int) : Con Tryz.prog 110 [.h base [], .f fid []] [.rt base .ro (tr l)] (fun y _ => y = .v (.bool (l.any p))) := by
 refine ob Tryz.func110 Tryz.ntmps110 ?_
 refine sr ?_
 refine qs' ?_
 refine qm ?_
 refine mn ?_
 refine cv Tryz.call168 rfl rfl (ixI_con hE hp _) ?_
 refine nm ?_
 refine qb ?_
 refine qr 4 ?_
 rw [← ixOf_ge]
 rfl
theorem ixII_con {fid : FuncId} {p : (List Int) → Bool} (hE : Ent Tryz.prog fid) (hp : ∀ x : List Int, Con Tryz.prog fid [.h base []] [.rt base .ro (tr x)] (fun y _ => y = .v (.bool (p x)))) (l : List (List Int)) : Con Tryz.prog 169 [.h base [], .f fid []] [.rt base .ro (tr l)] (fun y _ => y = .v (iv (ixOf p l))) := by
 refine ob Tryz.func169 Tryz.ntmps169 ?_
 refine AW.len base [] rfl (by simp [Okp]) rfl (fun hl => ?_)
 refine sr ?_
 refine qn ?_
 refine sr2 ?_
 refine qm ?_
 refine qh sl25 ?_
 refine nm ?_
 refine qm ?_
 refine nl ?_
 refine AW.block ?_
 refine AW.loopW (fun i : IxInv p l => [.sl 8 (.v (iv i.k)), .sl 7 (.v (iv l.length)), .sl 0 (.h base []), .sl 1 (.f fid []), .rt base .ro (tr l)]) (fun i => l.length - i.k) ⟨0, Nat.zero_le _, rfl⟩ (Weak.sim ⟨rfl, rfl, rfl, rfl, Rf rfl, trivial⟩ rfl rfl) ?_
 intro i
 have hle := i.le
 refine sr ?_
 refine qb ?_
 refine nl ?_
 refine AW.seq ?_
 refine cd (fun c1 => ?_) fun c1 => ?_
 ·try simp only [cnd] at c1
  refine jd (AW.seq (AW.block (sr ?_)))
  refine mn ?_
  refine qs' ?_
  refine qm ?_
  refine mn ?_
  refine qm ?_
  refine qq (ix sl25 sz24) ?_
  refine ql ag24 ?_
  refine nm ?_
  refine cv hE rfl rfl (hp (l.getD i.k En.dflt)) ?_
  refine nc (fun c2 => ?_) fun c2 => ?_
  ·try simp only [cnd] at c2
   refine sr ?_
   refine mn ?_
   refine qr 4 ?_
   rw [ixOf_hit i En.dflt (by omega) c2]
   rfl
  try simp only [cnd] at c2
  refine jd (AW.region ?_)
  refine ba ?_
  refine qm ?_
  refine nl ?_
  refine ⟨⟨i.k + 1, by omega, i.next En.dflt (by omega) c2⟩, Weak.sim ⟨st1, rfl, rfl, rfl, Rf rfl, trivial⟩ rfl rfl, ?_⟩
  show l.length - (i.k + 1) < l.length - i.k
  omega
 try simp only [cnd] at c1
 refine AW.exit ?_
 dsimp only [thenQ, blockQ, reduceIte]
 refine sr ?_
 refine qr 4 ?_
 rw [ixOf_none i (by omega)]
 rfl
theorem hasII_con {fid : FuncId} {p : (List Int) → Bool} (hE : Ent Tryz.prog fid) (hp : ∀ x : List Int, Con Tryz.prog fid [.h base []] [.rt base .ro (tr x)] (fun y _ => y = .v (.bool (p x)))) (l : List (List Int)) : Con Tryz.prog 114 [.h base [], .f fid []] [.rt base .ro (tr l)] (fun y _ => y = .v (.bool (l.any p))) := by
 refine ob Tryz.func114 Tryz.ntmps114 ?_
 refine sr ?_
 refine qs' ?_
 refine qm ?_
 refine mn ?_
 refine cv Tryz.call169 rfl rfl (ixII_con hE hp _) ?_
 refine nm ?_
 refine qb ?_
 refine qr 4 ?_
 rw [← ixOf_ge]
 rfl
theorem ixBP_con {fid : FuncId} {p : DBProc → Bool} (hE : Ent Tryz.prog fid) (hp : ∀ x : DBProc, Con Tryz.prog fid [.g [.v (iv x.Pid), .v (iv x.Parent), .v (iv x.State), .v (iv x.Prog), .v (iv x.Cpu.Pc), .h base [], .h (base + 1) [], .h (base + 2) [], .v (iv x.Until), .v (iv x.Code)]] [.rt base .ro (tr x.Cpu.Regs), .rt (base + 1) .ro (tr x.Pages), .rt (base + 2) .ro (tr x.Fds)] (fun y _ => y = .v (.bool (p x)))) (l : List DBProc) : Con Tryz.prog 167 [.h base [], .f fid []] [.rt base .ro (tr l)] (fun y _ => y = .v (iv (ixOf p l))) := by
 refine ob Tryz.func167 Tryz.ntmps167 ?_
 refine AW.len base [] rfl (by simp [Okp]) rfl (fun hl => ?_)
 refine sr ?_
 refine qn ?_
 refine sr2 ?_
 refine qm ?_
 refine qh sl42 ?_
 refine nm ?_
 refine qm ?_
 refine nl ?_
 refine AW.block ?_
 refine AW.loopW (fun i : IxInv p l => [.sl 8 (.v (iv i.k)), .sl 7 (.v (iv l.length)), .sl 0 (.h base []), .sl 1 (.f fid []), .rt base .ro (tr l)]) (fun i => l.length - i.k) ⟨0, Nat.zero_le _, rfl⟩ (Weak.sim ⟨rfl, rfl, rfl, rfl, Rf rfl, trivial⟩ rfl rfl) ?_
 intro i
 have hle := i.le
 refine sr ?_
 refine qb ?_
 refine nl ?_
 refine AW.seq ?_
 refine cd (fun c1 => ?_) fun c1 => ?_
 ·try simp only [cnd] at c1
  refine jd (AW.seq (AW.block (sr ?_)))
  refine mn ?_
  refine qs' ?_
  refine qm ?_
  refine mn ?_
  refine qm ?_
  refine qq (ix sl42 sz77) ?_
  refine qG ag77 sz77 ?_
  refine nm ?_
  refine cv hE rfl rfl (hp (l.getD i.k En.dflt)) ?_
  refine nc (fun c2 => ?_) fun c2 => ?_
  ·try simp only [cnd] at c2
   refine sr ?_
   refine mn ?_
   refine qr 4 ?_
   rw [ixOf_hit i En.dflt (by omega) c2]
   rfl
  try simp only [cnd] at c2
  refine jd (AW.region ?_)
  refine ba ?_
  refine qm ?_
  refine nl ?_
  refine ⟨⟨i.k + 1, by omega, i.next En.dflt (by omega) c2⟩, Weak.sim ⟨st1, rfl, rfl, rfl, Rf rfl, trivial⟩ rfl rfl, ?_⟩
  show l.length - (i.k + 1) < l.length - i.k
  omega
 try simp only [cnd] at c1
 refine AW.exit ?_
 dsimp only [thenQ, blockQ, reduceIte]
 refine sr ?_
 refine qr 4 ?_
 rw [ixOf_none i (by omega)]
 rfl
theorem hasBP_con {fid : FuncId} {p : DBProc → Bool} (hE : Ent Tryz.prog fid) (hp : ∀ x : DBProc, Con Tryz.prog fid [.g [.v (iv x.Pid), .v (iv x.Parent), .v (iv x.State), .v (iv x.Prog), .v (iv x.Cpu.Pc), .h base [], .h (base + 1) [], .h (base + 2) [], .v (iv x.Until), .v (iv x.Code)]] [.rt base .ro (tr x.Cpu.Regs), .rt (base + 1) .ro (tr x.Pages), .rt (base + 2) .ro (tr x.Fds)] (fun y _ => y = .v (.bool (p x)))) (l : List DBProc) : Con Tryz.prog 108 [.h base [], .f fid []] [.rt base .ro (tr l)] (fun y _ => y = .v (.bool (l.any p))) := by
 refine ob Tryz.func108 Tryz.ntmps108 ?_
 refine sr ?_
 refine qs' ?_
 refine qm ?_
 refine mn ?_
 refine cv Tryz.call167 rfl rfl (ixBP_con hE hp _) ?_
 refine nm ?_
 refine qb ?_
 refine qr 4 ?_
 rw [← ixOf_ge]
 rfl
theorem ixBK_con {fid : FuncId} {p : DBPipe → Bool} (hE : Ent Tryz.prog fid) (hp : ∀ x : DBPipe, Con Tryz.prog fid [.g [.v (iv x.Id), .h base []]] [.rt base .ro (tr x.Chunks)] (fun y _ => y = .v (.bool (p x)))) (l : List DBPipe) : Con Tryz.prog 157 [.h base [], .f fid []] [.rt base .ro (tr l)] (fun y _ => y = .v (iv (ixOf p l))) := by
 refine ob Tryz.func157 Tryz.ntmps157 ?_
 refine AW.len base [] rfl (by simp [Okp]) rfl (fun hl => ?_)
 refine sr ?_
 refine qn ?_
 refine sr2 ?_
 refine qm ?_
 refine qh sl44 ?_
 refine nm ?_
 refine qm ?_
 refine nl ?_
 refine AW.block ?_
 refine AW.loopW (fun i : IxInv p l => [.sl 8 (.v (iv i.k)), .sl 7 (.v (iv l.length)), .sl 0 (.h base []), .sl 1 (.f fid []), .rt base .ro (tr l)]) (fun i => l.length - i.k) ⟨0, Nat.zero_le _, rfl⟩ (Weak.sim ⟨rfl, rfl, rfl, rfl, Rf rfl, trivial⟩ rfl rfl) ?_
 intro i
 have hle := i.le
 refine sr ?_
 refine qb ?_
 refine nl ?_
 refine AW.seq ?_
 refine cd (fun c1 => ?_) fun c1 => ?_
 ·try simp only [cnd] at c1
  refine jd (AW.seq (AW.block (sr ?_)))
  refine mn ?_
  refine qs' ?_
  refine qm ?_
  refine mn ?_
  refine qm ?_
  refine qq (ix sl44 sz83) ?_
  refine qG ag83 sz83 ?_
  refine nm ?_
  refine cv hE rfl rfl (hp (l.getD i.k En.dflt)) ?_
  refine nc (fun c2 => ?_) fun c2 => ?_
  ·try simp only [cnd] at c2
   refine sr ?_
   refine mn ?_
   refine qr 4 ?_
   rw [ixOf_hit i En.dflt (by omega) c2]
   rfl
  try simp only [cnd] at c2
  refine jd (AW.region ?_)
  refine ba ?_
  refine qm ?_
  refine nl ?_
  refine ⟨⟨i.k + 1, by omega, i.next En.dflt (by omega) c2⟩, Weak.sim ⟨st1, rfl, rfl, rfl, Rf rfl, trivial⟩ rfl rfl, ?_⟩
  show l.length - (i.k + 1) < l.length - i.k
  omega
 try simp only [cnd] at c1
 refine AW.exit ?_
 dsimp only [thenQ, blockQ, reduceIte]
 refine sr ?_
 refine qr 4 ?_
 rw [ixOf_none i (by omega)]
 rfl
theorem hasBK_con {fid : FuncId} {p : DBPipe → Bool} (hE : Ent Tryz.prog fid) (hp : ∀ x : DBPipe, Con Tryz.prog fid [.g [.v (iv x.Id), .h base []]] [.rt base .ro (tr x.Chunks)] (fun y _ => y = .v (.bool (p x)))) (l : List DBPipe) : Con Tryz.prog 84 [.h base [], .f fid []] [.rt base .ro (tr l)] (fun y _ => y = .v (.bool (l.any p))) := by
 refine ob Tryz.func84 Tryz.ntmps84 ?_
 refine sr ?_
 refine qs' ?_
 refine qm ?_
 refine mn ?_
 refine cv Tryz.call157 rfl rfl (ixBK_con hE hp _) ?_
 refine nm ?_
 refine qb ?_
 refine qr 4 ?_
 rw [← ixOf_ge]
 rfl
set_option maxHeartbeats 4000000 in
set_option maxRecDepth 10000 in
theorem shapeB11_con (x : Int) : Con Tryz.prog 111 [.v (iv x)] [] (fun y _ => y = .v (.bool !(frame x))) := by
 refine ob Tryz.func111 Tryz.ntmps111 ?_
 refine sr ?_
 refine qs' ?_
 refine qm ?_
 refine cv Tryz.call112 rfl rfl (isFrame_con _) ?_
 refine nm ?_
 refine qq (Qt.notB rfl) ?_
 refine qr 2 ?_
 rfl
set_option maxHeartbeats 4000000 in
set_option maxRecDepth 10000 in
theorem shapeB21_con (l : List Int) : Con Tryz.prog 115 [.h base []] [.rt base .ro (tr l)] (fun y _ => y = .v (.bool (((l.length : Nat) : Int) == 0))) := by
 refine ob Tryz.func115 Tryz.ntmps115 ?_
 refine sr ?_
 refine qs' ?_
 refine qm ?_
 refine qh sl24 ?_
 refine nm ?_
 refine qb ?_
 refine qr 2 ?_
 rfl
set_option maxHeartbeats 4000000 in
set_option maxRecDepth 10000 in
theorem shapeB1_con (p : DBProc) : Con Tryz.prog 109 [.g [.v (iv p.Pid), .v (iv p.Parent), .v (iv p.State), .v (iv p.Prog), .v (iv p.Cpu.Pc), .h base [], .h (base + 1) [], .h (base + 2) [], .v (iv p.Until), .v (iv p.Code)]] [.rt base .ro (tr p.Cpu.Regs), .rt (base + 1) .ro (tr p.Pages), .rt (base + 2) .ro (tr p.Fds)] (fun y _ => y = .v (.bool (p.Pages.any fun f => !(frame f)))) := by
 refine ob Tryz.func109 Tryz.ntmps109 ?_
 refine sr ?_
 refine bx ?_
 refine nm ?_
 refine qs' ?_
 refine qq (fA fl77_5) ?_
 refine ql ag24 ?_
 refine nm ?_
 refine cv Tryz.call110 rfl rfl (hasI_con Tryz.call111 (fun x => shapeB11_con x) _) ?_
 refine nm ?_
 refine qr 2 ?_
 rfl
set_option maxHeartbeats 4000000 in
set_option maxRecDepth 10000 in
theorem shapeB2_con (p : DBPipe) : Con Tryz.prog 113 [.g [.v (iv p.Id), .h base []]] [.rt base .ro (tr p.Chunks)] (fun y _ => y = .v (.bool (p.Chunks.any fun l => ((l.length : Nat) : Int) == 0))) := by
 refine ob Tryz.func113 Tryz.ntmps113 ?_
 refine sr ?_
 refine bx ?_
 refine nm ?_
 refine qs' ?_
 refine qq (fA fl83_1) ?_
 refine ql ag25 ?_
 refine nm ?_
 refine cv Tryz.call114 rfl rfl (hasII_con Tryz.call115 (fun x => shapeB21_con x) _) ?_
 refine nm ?_
 refine qr 2 ?_
 rfl
theorem anyP (l : List DBProc) : (l.any fun p => p.Pages.any fun f => !(frame f)) = !(l.all fun p => p.Pages.all frame) := by
 rw [Bool.eq_iff_iff]
 simp
theorem anyK (l : List DBPipe) : (l.any fun p => p.Chunks.any fun l => ((l.length : Nat) : Int) == 0) = !(l.all fun p => p.Chunks.all fun c => !(c.length == 0)) := by
 rw [Bool.eq_iff_iff]
 simp

set_option maxHeartbeats 4000000 in
set_option maxRecDepth 10000 in
theorem shapeBI_con (a : DNodes) : Con Tryz.prog 35 [.g [.v (iv a.Next), .v (iv a.Tick), .h base [], .h (base + 1) [], .h (base + 2) [], .h (base + 3) [], .h (base + 4) [], .h (base + 5) [], .h (base + 6) [], .h (base + 7) [], .h (base + 8) []]] [.rt base .ro (tr a.Progs), .rt (base + 1) .ro (tr a.Procs), .rt (base + 2) .ro (tr a.Ram), .rt (base + 3) .ro (tr a.Heap.Free), .rt (base + 4) .ro (tr a.Opens), .rt (base + 5) .ro (tr a.Pipes), .rt (base + 6) .ro (tr a.Files), .rt (base + 7) .ro (tr a.Ready), .rt (base + 8) .ro (tr a.Out)] (fun y _ => y = .v (.bool (shapeB a))) := by
 refine ob Tryz.func35 Tryz.ntmps35 ?_
 refine sr ?_
 refine bx ?_
 refine nm ?_
 refine qn ?_
 refine sr2 ?_
 refine qq (fA fl46_4) ?_
 refine ql ag24 ?_
 refine nm ?_
 refine qh sl24 ?_
 refine qb ?_
 refine nc (fun c1 => ?_) fun c1 => ?_
 ·try simp only [cnd] at c1
  refine sr ?_
  refine qr 2 ?_
  rw [show shapeB a = false from by simp [shapeB]; omega]
  rfl
 try simp only [cnd] at c1
 refine jd (sr2 ?_)
 refine qq (fA fl46_3) ?_
 refine nm ?_
 refine ql ag42 ?_
 refine cv Tryz.call108 rfl rfl (hasBP_con Tryz.call109 (fun x => shapeB1_con x) _) ?_
 refine nc (fun c2 => ?_) fun c2 => ?_
 ·have k2 := c2
  try simp only [cnd] at c2
  refine sr ?_
  refine qr 2 ?_
  rw [show shapeB a = false from by rw [anyP, Bool.not_eq_true'] at k2; simp only [shapeB, k2, Bool.false_and, Bool.and_false]]
  rfl
 have k2 := c2
 try simp only [cnd] at c2
 refine jd (sr ?_)
 refine qq (fA fl46_7) ?_
 refine nm ?_
 refine ql ag44 ?_
 refine cv Tryz.call84 rfl rfl (hasBK_con Tryz.call113 (fun x => shapeB2_con x) _) ?_
 refine nm ?_
 refine qq (Qt.notB rfl) ?_
 refine qr 2 ?_
 rw [show shapeB a = !(a.Pipes.any fun p => p.Chunks.any fun l => ((l.length : Nat) : Int) == 0) from by rw [anyP, Bool.not_eq_false'] at k2; rw [anyK]; have hR : (a.Ram.length == 64) = true := (by simp; omega); simp only [shapeB, hR, k2, Bool.true_and, Bool.not_not]]
 rfl
set_option maxHeartbeats 4000000 in
set_option maxRecDepth 10000 in
theorem l16Shape_con (a : DNodes) : Con Tryz.prog 26 [.g [.v (iv a.Next), .v (iv a.Tick), .h base [], .h (base + 1) [], .h (base + 2) [], .h (base + 3) [], .h (base + 4) [], .h (base + 5) [], .h (base + 6) [], .h (base + 7) [], .h (base + 8) []]] [.rt base .ro (tr a.Progs), .rt (base + 1) .ro (tr a.Procs), .rt (base + 2) .ro (tr a.Ram), .rt (base + 3) .ro (tr a.Heap.Free), .rt (base + 4) .ro (tr a.Opens), .rt (base + 5) .ro (tr a.Pipes), .rt (base + 6) .ro (tr a.Files), .rt (base + 7) .ro (tr a.Ready), .rt (base + 8) .ro (tr a.Out)] (fun y _ => y = .v (.bool (shapeB a))) := by
 refine ob Tryz.func26 Tryz.ntmps26 ?_
 refine AW.len (base + 1) [] rfl (by simp [Okp]) rfl (fun hl => ?_)
 refine AW.len (base + 5) [] rfl (by simp [Okp]) rfl (fun hl2 => ?_)
 refine sr ?_
 refine bx ?_
 refine nm ?_
 refine qn ?_
 refine sr2 ?_
 refine qq (fA fl46_4) ?_
 refine ql ag24 ?_
 refine nm ?_
 refine qh sl24 ?_
 refine qb ?_
 refine nc (fun c1 => ?_) fun c1 => ?_
 ·try simp only [cnd] at c1
  refine sr ?_
  refine qr 2 ?_
  rw [show shapeB a = false from by simp [shapeB]; omega]
  rfl
 try simp only [cnd] at c1
 refine jd (sr2 ?_)
 refine qn ?_
 refine AW.block ?_
 refine AW.loopW (fun i : AllInv (fun p : DBProc => p.Pages.all frame) a.Procs => [.sl 3 (.v (iv i.k)), .rt 1 .box (T.s 11 1 fun k c => ([(T.v (iv a.Next), none), (T.v (iv a.Tick), none), (T.j, none), (T.j, none), (T.j, none), (T.j, none), (T.j, none), (T.j, none), (T.j, none), (T.j, none), (T.j, none)].getD (k * 11 + c) (T.j, none)).fst), .al 1 2 (.h base []), .al 1 3 (.h (base + 1) []), .al 1 4 (.h (base + 2) []), .al 1 5 (.h (base + 3) []), .al 1 6 (.h (base + 4) []), .al 1 7 (.h (base + 5) []), .al 1 8 (.h (base + 6) []), .al 1 9 (.h (base + 7) []), .al 1 10 (.h (base + 8) []), .rt base .ro (tr a.Progs), .rt (base + 1) .ro (tr a.Procs), .rt (base + 2) .ro (tr a.Ram), .rt (base + 3) .ro (tr a.Heap.Free), .rt (base + 4) .ro (tr a.Opens), .rt (base + 5) .ro (tr a.Pipes), .rt (base + 6) .ro (tr a.Files), .rt (base + 7) .ro (tr a.Ready), .rt (base + 8) .ro (tr a.Out), .sl 1 (.p 1 [] 11 0 0)]) (fun i => a.Procs.length - i.k) ⟨0, Nat.zero_le _, rfl⟩ (Weak.sim ⟨rfl, Rf rfl, ⟨rfl, rfl⟩, ⟨rfl, rfl⟩, ⟨rfl, rfl⟩, ⟨rfl, rfl⟩, ⟨rfl, rfl⟩, ⟨rfl, rfl⟩, ⟨rfl, rfl⟩, ⟨rfl, rfl⟩, ⟨rfl, rfl⟩, Rf rfl, Rf rfl, Rf rfl, Rf rfl, Rf rfl, Rf rfl, Rf rfl, Rf rfl, Rf rfl, rfl, trivial⟩ rfl rfl) ?_
 intro i
 have hle := i.le
 refine sr2 ?_
 refine mn ?_
 refine qq (fA fl46_3) ?_
 refine ql ag42 ?_
 refine qh sl42 ?_
 refine nm ?_
 refine qb ?_
 refine nc (fun c2 => ?_) fun c2 => ?_
 ·try simp only [cnd] at c2
  refine jd (AW.seq (AW.block (sr ?_)))
  refine qn ?_
  refine AW.block ?_
  refine AW.loopW (fun j : AllInv frame (a.Procs.getD i.k En.dflt).Pages => [.sl 4 (.v (iv j.k)), .sl 3 (.v (iv i.k)), .rt 1 .box (T.s 11 1 fun k c => ([(T.v (iv a.Next), none), (T.v (iv a.Tick), none), (T.j, none), (T.j, none), (T.j, none), (T.j, none), (T.j, none), (T.j, none), (T.j, none), (T.j, none), (T.j, none)].getD (k * 11 + c) (T.j, none)).fst), .al 1 2 (.h base []), .al 1 3 (.h (base + 1) []), .al 1 4 (.h (base + 2) []), .al 1 5 (.h (base + 3) []), .al 1 6 (.h (base + 4) []), .al 1 7 (.h (base + 5) []), .al 1 8 (.h (base + 6) []), .al 1 9 (.h (base + 7) []), .al 1 10 (.h (base + 8) []), .rt base .ro (tr a.Progs), .rt (base + 1) .ro (tr a.Procs), .rt (base + 2) .ro (tr a.Ram), .rt (base + 3) .ro (tr a.Heap.Free), .rt (base + 4) .ro (tr a.Opens), .rt (base + 5) .ro (tr a.Pipes), .rt (base + 6) .ro (tr a.Files), .rt (base + 7) .ro (tr a.Ready), .rt (base + 8) .ro (tr a.Out), .sl 1 (.p 1 [] 11 0 0)]) (fun j => (a.Procs.getD i.k En.dflt).Pages.length - j.k) ⟨0, Nat.zero_le _, rfl⟩ (Weak.sim ⟨rfl, rfl, Rf rfl, ⟨rfl, rfl⟩, ⟨rfl, rfl⟩, ⟨rfl, rfl⟩, ⟨rfl, rfl⟩, ⟨rfl, rfl⟩, ⟨rfl, rfl⟩, ⟨rfl, rfl⟩, ⟨rfl, rfl⟩, ⟨rfl, rfl⟩, Rf rfl, Rf rfl, Rf rfl, Rf rfl, Rf rfl, Rf rfl, Rf rfl, Rf rfl, Rf rfl, rfl, trivial⟩ rfl rfl) ?_
  intro j
  have hlej := j.le
  refine AW.len (base + 1) [(10, i.k, 6)] rfl (by refine ⟨rfl, ?_, by decide, trivial⟩; show i.k < a.Procs.length; omega) rfl (fun hl => ?_)
  refine sr2 ?_
  refine mn ?_
  refine qq (fA fl46_3) ?_
  refine ql ag42 ?_
  refine mn ?_
  refine qq (ix sl42 sz77) ?_
  refine qq (fA fl77_5) ?_
  refine ql ag24 ?_
  refine nm ?_
  refine qh sl24 ?_
  refine qb ?_
  refine nc (fun c3 => ?_) fun c3 => ?_
  ·try simp only [cnd] at c3
   refine jd (AW.seq (AW.block (sr ?_)))
   refine qq (fA fl46_3) ?_
   refine nm ?_
   refine ql ag42 ?_
   refine qm ?_
   refine qq (ix sl42 sz77) ?_
   refine nm ?_
   refine qq (fA fl77_5) ?_
   refine ql ag24 ?_
   refine mn ?_
   refine qq (ix sl24 sz3) ?_
   refine ql ag3 ?_
   refine cv Tryz.call94 rfl rfl (l12Frame_con _) ?_
   refine nm ?_
   refine qq (Qt.notB rfl) ?_
   refine nc (fun c4 => ?_) fun c4 => ?_
   ·try simp only [cnd] at c4
    refine sr ?_
    refine qr 2 ?_
    rw [show shapeB a = false from by simp only [shapeB, i.stop En.dflt (by omega) (j.stop En.dflt (by omega) c4), Bool.false_and, Bool.and_false]]
    rfl
   try simp only [cnd] at c4
   refine jd (AW.region ?_)
   refine mn ?_
   refine ba ?_
   refine qn ?_
   refine ⟨⟨j.k + 1, by omega, j.next En.dflt (by omega) c4⟩, Weak.sim ⟨st1, rfl, Rf rfl, ⟨rfl, rfl⟩, ⟨rfl, rfl⟩, ⟨rfl, rfl⟩, ⟨rfl, rfl⟩, ⟨rfl, rfl⟩, ⟨rfl, rfl⟩, ⟨rfl, rfl⟩, ⟨rfl, rfl⟩, ⟨rfl, rfl⟩, Rf rfl, Rf rfl, Rf rfl, Rf rfl, Rf rfl, Rf rfl, Rf rfl, Rf rfl, Rf rfl, rfl, trivial⟩ rfl rfl, ?_⟩
   show (a.Procs.getD i.k En.dflt).Pages.length - (j.k + 1) < (a.Procs.getD i.k En.dflt).Pages.length - j.k
   omega
  try simp only [cnd] at c3
  refine AW.exit ?_
  dsimp only [thenQ, blockQ, reduceIte]
  refine AW.region ?_
  refine mn ?_
  refine ba ?_
  refine qn ?_
  refine ⟨⟨i.k + 1, by omega, i.next En.dflt (by omega) (j.full (by omega))⟩, Weak.sim ⟨st1, Rf rfl, ⟨rfl, rfl⟩, ⟨rfl, rfl⟩, ⟨rfl, rfl⟩, ⟨rfl, rfl⟩, ⟨rfl, rfl⟩, ⟨rfl, rfl⟩, ⟨rfl, rfl⟩, ⟨rfl, rfl⟩, ⟨rfl, rfl⟩, Rf rfl, Rf rfl, Rf rfl, Rf rfl, Rf rfl, Rf rfl, Rf rfl, Rf rfl, Rf rfl, rfl, trivial⟩ rfl rfl, ?_⟩
  show a.Procs.length - (i.k + 1) < a.Procs.length - i.k
  omega
 try simp only [cnd] at c2
 have hP := i.full (by omega)
 refine AW.exit ?_
 dsimp only [thenQ, blockQ, reduceIte]
 refine sr2 ?_
 refine qn ?_
 refine AW.block ?_
 refine AW.loopW (fun m : AllInv (fun p : DBPipe => p.Chunks.all fun c => !(c.length == 0)) a.Pipes => [.sl 5 (.v (iv m.k)), .rt 1 .box (T.s 11 1 fun k c => ([(T.v (iv a.Next), none), (T.v (iv a.Tick), none), (T.j, none), (T.j, none), (T.j, none), (T.j, none), (T.j, none), (T.j, none), (T.j, none), (T.j, none), (T.j, none)].getD (k * 11 + c) (T.j, none)).fst), .al 1 2 (.h base []), .al 1 3 (.h (base + 1) []), .al 1 4 (.h (base + 2) []), .al 1 5 (.h (base + 3) []), .al 1 6 (.h (base + 4) []), .al 1 7 (.h (base + 5) []), .al 1 8 (.h (base + 6) []), .al 1 9 (.h (base + 7) []), .al 1 10 (.h (base + 8) []), .rt base .ro (tr a.Progs), .rt (base + 1) .ro (tr a.Procs), .rt (base + 2) .ro (tr a.Ram), .rt (base + 3) .ro (tr a.Heap.Free), .rt (base + 4) .ro (tr a.Opens), .rt (base + 5) .ro (tr a.Pipes), .rt (base + 6) .ro (tr a.Files), .rt (base + 7) .ro (tr a.Ready), .rt (base + 8) .ro (tr a.Out), .sl 1 (.p 1 [] 11 0 0)]) (fun m => a.Pipes.length - m.k) ⟨0, Nat.zero_le _, rfl⟩ (Weak.sim ⟨rfl, Rf rfl, ⟨rfl, rfl⟩, ⟨rfl, rfl⟩, ⟨rfl, rfl⟩, ⟨rfl, rfl⟩, ⟨rfl, rfl⟩, ⟨rfl, rfl⟩, ⟨rfl, rfl⟩, ⟨rfl, rfl⟩, ⟨rfl, rfl⟩, Rf rfl, Rf rfl, Rf rfl, Rf rfl, Rf rfl, Rf rfl, Rf rfl, Rf rfl, Rf rfl, rfl, trivial⟩ rfl rfl) ?_
 intro m
 have hlem := m.le
 refine sr2 ?_
 refine mn ?_
 refine qq (fA fl46_7) ?_
 refine ql ag44 ?_
 refine qh sl44 ?_
 refine nm ?_
 refine qb ?_
 refine nc (fun c5 => ?_) fun c5 => ?_
 ·try simp only [cnd] at c5
  refine jd (AW.seq (AW.block (sr ?_)))
  refine qn ?_
  refine AW.block ?_
  refine AW.loopW (fun j : AllInv (fun c : List Int => !(c.length == 0)) (a.Pipes.getD m.k En.dflt).Chunks => [.sl 6 (.v (iv j.k)), .sl 5 (.v (iv m.k)), .rt 1 .box (T.s 11 1 fun k c => ([(T.v (iv a.Next), none), (T.v (iv a.Tick), none), (T.j, none), (T.j, none), (T.j, none), (T.j, none), (T.j, none), (T.j, none), (T.j, none), (T.j, none), (T.j, none)].getD (k * 11 + c) (T.j, none)).fst), .al 1 2 (.h base []), .al 1 3 (.h (base + 1) []), .al 1 4 (.h (base + 2) []), .al 1 5 (.h (base + 3) []), .al 1 6 (.h (base + 4) []), .al 1 7 (.h (base + 5) []), .al 1 8 (.h (base + 6) []), .al 1 9 (.h (base + 7) []), .al 1 10 (.h (base + 8) []), .rt base .ro (tr a.Progs), .rt (base + 1) .ro (tr a.Procs), .rt (base + 2) .ro (tr a.Ram), .rt (base + 3) .ro (tr a.Heap.Free), .rt (base + 4) .ro (tr a.Opens), .rt (base + 5) .ro (tr a.Pipes), .rt (base + 6) .ro (tr a.Files), .rt (base + 7) .ro (tr a.Ready), .rt (base + 8) .ro (tr a.Out), .sl 1 (.p 1 [] 11 0 0)]) (fun j => (a.Pipes.getD m.k En.dflt).Chunks.length - j.k) ⟨0, Nat.zero_le _, rfl⟩ (Weak.sim ⟨rfl, rfl, Rf rfl, ⟨rfl, rfl⟩, ⟨rfl, rfl⟩, ⟨rfl, rfl⟩, ⟨rfl, rfl⟩, ⟨rfl, rfl⟩, ⟨rfl, rfl⟩, ⟨rfl, rfl⟩, ⟨rfl, rfl⟩, ⟨rfl, rfl⟩, Rf rfl, Rf rfl, Rf rfl, Rf rfl, Rf rfl, Rf rfl, Rf rfl, Rf rfl, Rf rfl, rfl, trivial⟩ rfl rfl) ?_
  intro j
  have hlej := j.le
  refine AW.len (base + 5) [(2, m.k, 1)] rfl (by refine ⟨rfl, ?_, by decide, trivial⟩; show m.k < a.Pipes.length; omega) rfl (fun hl => ?_)
  refine sr2 ?_
  refine mn ?_
  refine qq (fA fl46_7) ?_
  refine ql ag44 ?_
  refine mn ?_
  refine qq (ix sl44 sz83) ?_
  refine qq (fA fl83_1) ?_
  refine ql ag25 ?_
  refine nm ?_
  refine qh sl25 ?_
  refine qb ?_
  refine nc (fun c6 => ?_) fun c6 => ?_
  ·try simp only [cnd] at c6
   refine jd (AW.seq (AW.block (sr ?_)))
   refine qq (fA fl46_7) ?_
   refine nm ?_
   refine ql ag44 ?_
   refine qm ?_
   refine qq (ix sl44 sz83) ?_
   refine nm ?_
   refine qq (fA fl83_1) ?_
   refine ql ag25 ?_
   refine mn ?_
   refine qq (ix sl25 sz24) ?_
   refine ql ag24 ?_
   refine qh sl24 ?_
   refine nm ?_
   refine qb ?_
   refine nc (fun c7 => ?_) fun c7 => ?_
   ·try simp only [cnd] at c7
    refine sr ?_
    refine qr 2 ?_
    rw [show shapeB a = false from by simp only [shapeB, m.stop En.dflt (by omega) (j.stop En.dflt (by omega) (by rw [Bool.not_eq_false', beq_iff_eq]; omega)), Bool.and_false]]
    rfl
   try simp only [cnd] at c7
   refine jd (AW.region ?_)
   refine mn ?_
   refine ba ?_
   refine qn ?_
   refine ⟨⟨j.k + 1, by omega, j.next En.dflt (by omega) (by rw [Bool.not_eq_true', beq_eq_false_iff_ne]; omega)⟩, Weak.sim ⟨st1, rfl, Rf rfl, ⟨rfl, rfl⟩, ⟨rfl, rfl⟩, ⟨rfl, rfl⟩, ⟨rfl, rfl⟩, ⟨rfl, rfl⟩, ⟨rfl, rfl⟩, ⟨rfl, rfl⟩, ⟨rfl, rfl⟩, ⟨rfl, rfl⟩, Rf rfl, Rf rfl, Rf rfl, Rf rfl, Rf rfl, Rf rfl, Rf rfl, Rf rfl, Rf rfl, rfl, trivial⟩ rfl rfl, ?_⟩
   show (a.Pipes.getD m.k En.dflt).Chunks.length - (j.k + 1) < (a.Pipes.getD m.k En.dflt).Chunks.length - j.k
   omega
  try simp only [cnd] at c6
  refine AW.exit ?_
  dsimp only [thenQ, blockQ, reduceIte]
  refine AW.region ?_
  refine mn ?_
  refine ba ?_
  refine qn ?_
  refine ⟨⟨m.k + 1, by omega, m.next En.dflt (by omega) (j.full (by omega))⟩, Weak.sim ⟨st1, Rf rfl, ⟨rfl, rfl⟩, ⟨rfl, rfl⟩, ⟨rfl, rfl⟩, ⟨rfl, rfl⟩, ⟨rfl, rfl⟩, ⟨rfl, rfl⟩, ⟨rfl, rfl⟩, ⟨rfl, rfl⟩, ⟨rfl, rfl⟩, Rf rfl, Rf rfl, Rf rfl, Rf rfl, Rf rfl, Rf rfl, Rf rfl, Rf rfl, Rf rfl, rfl, trivial⟩ rfl rfl, ?_⟩
  show a.Pipes.length - (m.k + 1) < a.Pipes.length - m.k
  omega
 try simp only [cnd] at c5
 refine AW.exit ?_
 dsimp only [thenQ, blockQ, reduceIte]
 refine sr ?_
 refine qr 2 ?_
 have hR : (a.Ram.length == 64) = true := by simp; omega
 have hM := m.full (by omega)
 rw [show shapeB a = true from by simp only [shapeB, hR, hP, hM, Bool.and_true]]
 rfl
end Go.Proofs.YtekcnnngjoonbaaGreat.VM
