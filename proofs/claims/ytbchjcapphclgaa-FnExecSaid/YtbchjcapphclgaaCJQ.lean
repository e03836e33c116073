/- Contracts of functions of the program. No conditions beyond those that each states. -/
import Derived.Test.YtbchjcapphclgaaCJP
set_option linter.all false
namespace Go.Proofs.Ytbchjcapphclgaa.VM
open Go Go.RowKit Go.Proofs

def didNone : DDid := ⟨0, -1, 0, 0⟩
def didFault : DDid := ⟨2, -1, 0, 0⟩
def core (i : DIns) (c : DCpu) (mem : List Int) : DCpu × DDid :=
 if i.Op = 1 then (⟨c.Pc + 1, c.Regs.set i.A.toNat i.B⟩, didNone)
 else if i.Op = 2 then
  if -1000000 ≤ c.Regs.getD i.B.toNat En.dflt + c.Regs.getD i.C.toNat En.dflt ∧ c.Regs.getD i.B.toNat En.dflt + c.Regs.getD i.C.toNat En.dflt ≤ 1000000 then (⟨c.Pc + 1, c.Regs.set i.A.toNat (c.Regs.getD i.B.toNat En.dflt + c.Regs.getD i.C.toNat En.dflt)⟩, didNone) else (c, didFault)
 else if i.Op = 3 then
  if -1000000 ≤ c.Regs.getD i.B.toNat En.dflt - c.Regs.getD i.C.toNat En.dflt ∧ c.Regs.getD i.B.toNat En.dflt - c.Regs.getD i.C.toNat En.dflt ≤ 1000000 then (⟨c.Pc + 1, c.Regs.set i.A.toNat (c.Regs.getD i.B.toNat En.dflt - c.Regs.getD i.C.toNat En.dflt)⟩, didNone) else (c, didFault)
 else if i.Op = 4 ∨ i.Op = 5 then
  if c.Regs.getD i.B.toNat En.dflt < 0 ∨ (mem.length : Int) ≤ c.Regs.getD i.B.toNat En.dflt then (c, didFault)
  else if i.Op = 4 then (⟨c.Pc + 1, c.Regs.set i.A.toNat (mem.getD (c.Regs.getD i.B.toNat En.dflt).toNat En.dflt)⟩, didNone)
  else (⟨c.Pc + 1, c.Regs⟩, ⟨0, c.Regs.getD i.B.toNat En.dflt, c.Regs.getD i.A.toNat En.dflt, 0⟩)
 else if i.Op = 6 then (⟨i.A, c.Regs⟩, didNone)
 else if i.Op = 7 then
  if c.Regs.getD i.A.toNat En.dflt = 0 then (⟨i.B, c.Regs⟩, didNone) else (⟨c.Pc + 1, c.Regs⟩, didNone)
 else (⟨c.Pc + 1, c.Regs⟩, ⟨1, -1, 0, i.A⟩)
def execC (p : List DIns) (c : DCpu) (mem : List Int) : DCpu × DDid := if (p.length : Int) ≤ c.Pc then (c, didFault) else core (p.getD c.Pc.toNat En.dflt) c mem
theorem insFacts {i : DIns} (h : insOk i = true) : 1 ≤ i.Op ∧ i.Op ≤ 8 ∧ (i.Op ≠ 6 → i.Op ≠ 8 → 0 ≤ i.A ∧ i.A ≤ 3) ∧ (2 ≤ i.Op → i.Op ≤ 5 → 0 ≤ i.B ∧ i.B ≤ 3) ∧ (2 ≤ i.Op → i.Op ≤ 3 → 0 ≤ i.C ∧ i.C ≤ 3) := by
 unfold insOk reg at h
 split at h
 ·simp at h; omega
 split at h
 ·simp at h; omega
 split at h
 ·simp at h; omega
 split at h
 ·simp at h; omega
 split at h
 ·simp at h; omega
 split at h
 ·simp at h; omega
 ·cases h

set_option maxHeartbeats 4000000 in
set_option maxRecDepth 10000 in
theorem l5None_con : Con Try.prog 53 [] [] (RetW (.g [.v (iv didNone.Kind), .v (iv didNone.Addr), .v (iv didNone.Val), .v (iv didNone.Sys)]) [] []) := by
 refine Con.of_body Try.func53 rfl (by simp) ?_
 rw [Try.ntmps53]
 refine AW.seq (AW.region ?_)
 refine sp (Stp.alloc rfl (by decide) (by decide)) ?_
 refine nl ?_
 refine AW.seq (AW.region ?_)
 refine qq (Qt.build rfl) ?_
 refine nm ?_
 refine ss ?_
 refine nl ?_
 refine AW.ret (endQ_ret (.cons (.cellG 0 40 rfl rfl rfl ag40 sz40 (by decide)) .nil) ?_)
 refine ⟨fun n => n, rfl, fun _ _ => rfl, List.nodup_nil, (by simp), (by simp)⟩
set_option maxHeartbeats 4000000 in
set_option maxRecDepth 10000 in
theorem l5Fault_con (c : DCpu) : Con Try.prog 52 [.g [.v (iv c.Pc), .h base []]] [.rt base .ro (tr c.Regs)] (RetW (.t [.g [.v (iv c.Pc), .h base []], .g [.v (iv didFault.Kind), .v (iv didFault.Addr), .v (iv didFault.Val), .v (iv didFault.Sys)]]) [] []) := by
 refine Con.of_body Try.func52 rfl (by simp) ?_
 rw [Try.ntmps52]
 refine AW.seq (AW.region ?_)
 refine sp (Stp.boxB rfl (by decide) (by decide) rfl rfl rfl rfl) ?_
 refine nm ?_
 refine sp (Stp.alloc rfl (by decide) (by decide)) ?_
 refine nm ?_
 refine sp (Stp.alloc rfl (by decide) (by decide)) ?_
 refine nl ?_
 refine AW.seq (AW.region ?_)
 refine qq (Qt.loadG rfl rfl rfl ag36 sz36 (by decide)) ?_
 refine nm ?_
 refine qq (Qt.build rfl) ?_
 refine ss ?_
 refine nm ?_
 refine ss ?_
 refine nl ?_
 refine AW.ret (endQ_ret (.cons (.cellG 2 36 rfl rfl rfl ag36 sz36 (by decide)) (.cons (.cellG 3 40 rfl rfl rfl ag40 sz40 (by decide)) .nil)) ?_)
 refine ⟨fun n => n, rfl, fun _ _ => rfl, List.nodup_nil, (by simp), (by simp)⟩
set_option maxHeartbeats 4000000 in
set_option maxRecDepth 10000 in
theorem l5Exec_con (p : List DIns) (c : DCpu) (mem : List Int) (h0 : 0 ≤ c.Pc) (hlen : c.Regs.length = 4) (hR : ∀ k, -1000000 ≤ c.Regs.getD k En.dflt ∧ c.Regs.getD k En.dflt ≤ 1000000) (hI : ∀ k, k < p.length → insOk (p.getD k En.dflt) = true) : Con Try.prog 37 [.h base [], .g [.v (iv c.Pc), .h (base + 1) []], .h (base + 2) []] [.rt base .ro (tr p), .rt (base + 1) .row (tr c.Regs), .rt (base + 2) .ro (tr mem)] (RetW (.t [.g [.v (iv (execC p c mem).1.Pc), .h (base + 1) []], .g [.v (iv (execC p c mem).2.Kind), .v (iv (execC p c mem).2.Addr), .v (iv (execC p c mem).2.Val), .v (iv (execC p c mem).2.Sys)]]) [] [(base + 1, tr (execC p c mem).1.Regs)]) := by
 refine Con.of_body Try.func37 rfl (by simp) ?_
 rw [Try.ntmps37]
 refine AW.len base [] rfl (by simp [Okp]) rfl (fun hl => ?_)
 refine AW.len (base + 2) [] rfl (by simp [Okp]) rfl (fun hml => ?_)
 refine AW.seq (AW.region ?_)
 refine sp (Stp.boxB rfl (by decide) (by decide) rfl rfl rfl rfl) ?_
 refine nm ?_
 refine sp (Stp.alloc rfl (by decide) (by decide)) ?_
 refine nm ?_
 refine sp (Stp.alloc rfl (by decide) (by decide)) ?_
 refine nl ?_
 refine AW.seq (AW.seq (AW.region ?_))
 refine qq (fA fl36_0) ?_
 refine nm ?_
 refine qq (Qt.load1 rfl rfl rfl ag3) ?_
 refine qq Qt.move ?_
 refine qq (Qt.lenH rfl rfl rfl sl33) ?_
 refine nm ?_
 refine qq (Qt.binOp rfl rfl rfl) ?_
 refine nl ?_
 refine AW.cond rfl (fun c1 => ?_) (fun c1 => ?_)
 ·have k1 := c1
  try simp only [cnd] at c1
  refine AW.seq (AW.region ?_)
  refine qq (Qt.loadG rfl rfl rfl ag36 sz36 (by decide)) ?_
  refine sp (Stp.callH rfl (by decide) Try.call52 rfl (l5Fault_con _) rfl rfl rfl (nodup_of rfl) rfl rfl) ?_
  refine nm ?_
  refine qq (Qt.extract rfl (of_decide_eq_true rfl)) ?_
  refine qq (Qt.extract rfl (of_decide_eq_true rfl)) ?_
  refine ss ?_
  refine nm ?_
  refine ss ?_
  refine nl ?_
  refine AW.ret (endQ_ret (.cons (.cellG 6 36 rfl rfl rfl ag36 sz36 (by decide)) (.cons (.cellG 7 40 rfl rfl rfl ag40 sz40 (by decide)) .nil)) ?_)
  rw [show execC p c mem = (c, didFault) from if_pos (by omega)]
  refine ⟨fun n => n, rfl, fun _ _ => rfl, List.nodup_nil, (by simp), ?_⟩
  intro q hq
  cases List.mem_singleton.1 hq
  exact rootL_mem rfl
 have k1 := c1
 try simp only [cnd] at c1
 have hi := hI c.Pc.toNat (by omega)
 obtain ⟨hop1, hop2, hA, hB, hC⟩ := insFacts hi
 have hRA := hR (p.getD c.Pc.toNat En.dflt).A.toNat
 have hRB := hR (p.getD c.Pc.toNat En.dflt).B.toNat
 have hRC := hR (p.getD c.Pc.toNat En.dflt).C.toNat
 have hE : execC p c mem = core (p.getD c.Pc.toNat En.dflt) c mem := if_neg (by omega)
 refine jd (AW.seq (AW.region ?_))
 refine qq Qt.move ?_
 refine nm ?_
 refine qq (fA fl36_0) ?_
 refine qq (Qt.load1 rfl rfl rfl ag3) ?_
 refine qq (Qt.indexAddr rfl rfl rfl rfl sl33 sz45 (by decide) (by omega)) ?_
 refine nm ?_
 refine qq (Qt.loadG rfl rfl rfl ag45 sz45 (by decide)) ?_
 refine sp (Stp.alloc rfl (by decide) (by decide)) ?_
 refine nm ?_
 refine ss ?_
 refine nl ?_
 refine AW.seq (AW.region ?_)
 refine sp (Stp.callH rfl (by decide) Try.call53 rfl l5None_con rfl rfl rfl (nodup_of rfl) rfl rfl) ?_
 refine nm ?_
 refine sp (Stp.alloc rfl (by decide) (by decide)) ?_
 refine nm ?_
 refine ss ?_
 refine nl ?_
 refine AW.seq (AW.region ?_)
 refine qq (fA fl36_0) ?_
 refine nm ?_
 refine qq (Qt.load1 rfl rfl rfl ag3) ?_
 refine qq (Qt.binOp rfl rfl (by first | exact pbAdd (by omega) | rfl)) ?_
 refine qq Qt.assign ?_
 refine nl ?_
 refine AW.seq (AW.seq (AW.region ?_))
 refine qq (fA fl45_0) ?_
 refine nm ?_
 refine qq (Qt.load1 rfl rfl rfl ag3) ?_
 refine nl ?_
 refine AW.block (AW.seq (AW.region ?_))
 refine qq (Qt.binOp rfl rfl rfl) ?_
 refine qq Qt.assign ?_
 refine nl ?_
 refine AW.cond rfl (fun c2 => ?_) (fun c2 => ?_)
 ·have k2 := c2
  try simp only [cnd] at c2
  refine AW.region ?_
  refine qq (fA fl36_1) ?_
  refine nm ?_
  refine qq (Qt.load1 rfl rfl rfl ag34) ?_
  refine qq (fA fl45_1) ?_
  refine qq (Qt.load1 rfl rfl rfl ag3) ?_
  refine nm ?_
  refine qq (fA fl45_2) ?_
  refine qq (Qt.load1 rfl rfl rfl ag3) ?_
  refine qq (Qt.indexAddr rfl rfl rfl rfl sl34 sz3 (by decide) (by omega)) ?_
  refine nm ?_
  refine ss ?_
  refine nl ?_
  refine AW.seq (AW.region ?_)
  refine qq Qt.move ?_
  refine nm ?_
  refine qq (fA fl36_0) ?_
  refine ss ?_
  refine nl ?_
  refine AW.seq ?_
  refine AW.draw [0, 1] rfl (by decide +kernel) ?_
  refine tk 0 rfl (Qt.loadG rfl rfl rfl ag36 sz36 (by decide)) ?_
  refine na ?_
  refine tk 1 rfl (Qt.loadG rfl rfl rfl ag40 sz40 (by decide)) ?_
  refine a1 2 [1] [0] rfl rfl (by first | exact Stp.storeA rfl rfl rfl rfl (by decide) rfl | exact Stp.store rfl rfl (by simp) rfl rfl rfl (by decide) rfl) ?_
  refine na ?_
  refine AWA.againE rfl rfl (by decide +kernel) (.on rfl rfl (Qt.loadG rfl rfl rfl ag40 sz40 (by decide))) rfl ?_
  refine na ?_
  refine a1 3 [] [2, 1, 0] rfl rfl (by first | exact Stp.storeA rfl rfl rfl rfl (by decide) rfl | exact Stp.store rfl rfl (by simp) rfl rfl rfl (by decide) rfl) ?_
  refine na ?_
  refine na ?_
  refine nz ?_
  refine AW.rep (base + 1) (tr (c.Regs.set (p.getD c.Pc.toNat En.dflt).A.toNat (p.getD c.Pc.toNat En.dflt).B)) rfl (set_sim (fun k c hk => by simp only [upd_app, hk, false_and, if_false]; try rfl) (fun c hc => match c, hc with | 0, _ => (by simp only [upd_app, eq_self, and_self, if_true]; exact T.sim_refl _) | c + 1, hc => absurd hc (by simp only [En.n]; omega))) ?_
  refine AW.ret (endQ_ret (.cons (.cellG 6 36 rfl rfl rfl ag36 sz36 (by decide)) (.cons (.cellG 7 40 rfl rfl rfl ag40 sz40 (by decide)) .nil)) ?_)
  rw [show execC p c mem = (⟨c.Pc + 1, c.Regs.set (p.getD c.Pc.toNat En.dflt).A.toNat (p.getD c.Pc.toNat En.dflt).B⟩, didNone) from hE.trans (by unfold core; repeat (first | rw [if_pos (by omega)] | rw [if_neg (by omega)]))]
  refine ⟨fun n => n, rfl, fun _ _ => rfl, List.nodup_nil, (by simp), ?_⟩
  intro q hq
  cases List.mem_singleton.1 hq
  exact rootL_mem rfl
 have k2 := c2
 try simp only [cnd] at c2
 refine AW.seq (AW.seq (AW.region ?_))
 refine qq (Qt.binOp rfl rfl rfl) ?_
 refine qq Qt.assign ?_
 refine nl ?_
 refine AW.cond rfl (fun c3 => ?_) (fun c3 => ?_)
 ·have k3 := c3
  try simp only [cnd] at c3
  refine jd ?_
  refine AW.condT rfl k3 ?_
  refine AW.seq ?_
  refine AW.draw [0, 1, 2, 3, 4, 5, 6, 7, 8, 9, 10, 11, 12, 13] rfl (by decide +kernel) ?_
  refine tk 0 rfl (fA fl36_1) ?_
  refine na ?_
  refine tk 1 rfl (Qt.load1 rfl rfl rfl ag34) ?_
  refine tk 2 rfl (fA fl45_2) ?_
  refine tk 3 rfl (Qt.load1 rfl rfl rfl ag3) ?_
  refine na ?_
  refine tk 4 rfl (Qt.indexAddr rfl rfl rfl rfl sl34 sz3 (by decide) (by omega)) ?_
  refine tk 5 rfl (Qt.load1 rfl rfl rfl ag3) ?_
  refine tk 6 rfl (fA fl36_1) ?_
  refine na ?_
  refine tk 7 rfl (Qt.load1 rfl rfl rfl ag34) ?_
  refine tk 8 rfl (fA fl45_3) ?_
  refine tk 9 rfl (Qt.load1 rfl rfl rfl ag3) ?_
  refine na ?_
  refine tk 10 rfl (Qt.indexAddr rfl rfl rfl rfl sl34 sz3 (by decide) (by omega)) ?_
  refine tk 11 rfl (Qt.load1 rfl rfl rfl ag3) ?_
  refine tk 12 rfl (Qt.binOp rfl rfl (by first | exact pbAdd (by omega) | rfl)) ?_
  refine na ?_
  refine tk 13 rfl Qt.assign ?_
  refine nz ?_
  refine AW.seq (AW.seq (AW.region ?_))
  refine qq (fA fl45_0) ?_
  refine qq (Qt.load1 rfl rfl rfl ag3) ?_
  refine nm ?_
  refine qq (Qt.binOp rfl rfl rfl) ?_
  refine nl ?_
  refine AW.cond rfl (fun c4 => ?_) (fun c4 => ?_)
  ·have k4 := c4
   try simp only [cnd] at c4
   refine AW.draw [0, 1, 2, 3, 4, 5, 6, 7, 8, 9, 10, 11, 12, 13] rfl (by decide +kernel) ?_
   refine tk 0 rfl (fA fl36_1) ?_
   refine tk 1 rfl (Qt.load1 rfl rfl rfl ag34) ?_
   refine na ?_
   refine tk 2 rfl (fA fl45_2) ?_
   refine tk 3 rfl (Qt.load1 rfl rfl rfl ag3) ?_
   refine tk 4 rfl (Qt.indexAddr rfl rfl rfl rfl sl34 sz3 (by decide) (by omega)) ?_
   refine na ?_
   refine tk 5 rfl (Qt.load1 rfl rfl rfl ag3) ?_
   refine tk 6 rfl (fA fl36_1) ?_
   refine tk 7 rfl (Qt.load1 rfl rfl rfl ag34) ?_
   refine na ?_
   refine tk 8 rfl (fA fl45_3) ?_
   refine tk 9 rfl (Qt.load1 rfl rfl rfl ag3) ?_
   refine tk 10 rfl (Qt.indexAddr rfl rfl rfl rfl sl34 sz3 (by decide) (by omega)) ?_
   refine na ?_
   refine tk 11 rfl (Qt.load1 rfl rfl rfl ag3) ?_
   refine tk 12 rfl (Qt.binOp rfl rfl (by first | exact pbSub (by omega) | rfl)) ?_
   refine tk 13 rfl Qt.assign ?_
   refine na ?_
   refine nz ?_
   refine AW.seq (AW.seq (AW.region ?_))
   refine qq Qt.move ?_
   refine cv Try.call51 rfl rfl (l5Word_con _) ?_
   refine nm ?_
   refine qq (Qt.notB rfl) ?_
   refine nl ?_
   refine AW.cond rfl (fun c5 => ?_) (fun c5 => ?_)
   ·have k5 := c5
    try simp only [cnd] at c5
    refine AW.seq (AW.region ?_)
    refine qq (Qt.loadG rfl rfl rfl ag36 sz36 (by decide)) ?_
    refine sp (Stp.callH rfl (by decide) Try.call52 rfl (l5Fault_con _) rfl rfl rfl (nodup_of rfl) rfl rfl) ?_
    refine nm ?_
    refine qq (Qt.extract rfl (of_decide_eq_true rfl)) ?_
    refine qq (Qt.extract rfl (of_decide_eq_true rfl)) ?_
    refine ss ?_
    refine nm ?_
    refine ss ?_
    refine nl ?_
    refine AW.ret (endQ_ret (.cons (.cellG 6 36 rfl rfl rfl ag36 sz36 (by decide)) (.cons (.cellG 7 40 rfl rfl rfl ag40 sz40 (by decide)) .nil)) ?_)
    exfalso; omega
   have k5 := c5
   try simp only [cnd] at c5
   refine jd (AW.region ?_)
   refine qq (fA fl36_1) ?_
   refine nm ?_
   refine qq (Qt.load1 rfl rfl rfl ag34) ?_
   refine qq (fA fl45_1) ?_
   refine qq (Qt.load1 rfl rfl rfl ag3) ?_
   refine nm ?_
   refine qq Qt.move ?_
   refine qq (Qt.indexAddr rfl rfl rfl rfl sl34 sz3 (by decide) (by omega)) ?_
   refine ss ?_
   refine nl ?_
   refine AW.seq (AW.region ?_)
   refine qq Qt.move ?_
   refine nm ?_
   refine qq (fA fl36_0) ?_
   refine ss ?_
   refine nl ?_
   refine AW.seq ?_
   refine AW.draw [0, 1] rfl (by decide +kernel) ?_
   refine tk 0 rfl (Qt.loadG rfl rfl rfl ag36 sz36 (by decide)) ?_
   refine na ?_
   refine tk 1 rfl (Qt.loadG rfl rfl rfl ag40 sz40 (by decide)) ?_
   refine a1 2 [1] [0] rfl rfl (by first | exact Stp.storeA rfl rfl rfl rfl (by decide) rfl | exact Stp.store rfl rfl (by simp) rfl rfl rfl (by decide) rfl) ?_
   refine na ?_
   refine AWA.againE rfl rfl (by decide +kernel) (.on rfl rfl (Qt.loadG rfl rfl rfl ag40 sz40 (by decide))) rfl ?_
   refine na ?_
   refine a1 3 [] [2, 1, 0] rfl rfl (by first | exact Stp.storeA rfl rfl rfl rfl (by decide) rfl | exact Stp.store rfl rfl (by simp) rfl rfl rfl (by decide) rfl) ?_
   refine na ?_
   refine na ?_
   refine nz ?_
   refine AW.ret (endQ_ret (.cons (.cellG 6 36 rfl rfl rfl ag36 sz36 (by decide)) (.cons (.cellG 7 40 rfl rfl rfl ag40 sz40 (by decide)) .nil)) ?_)
   exfalso; omega
  have k4 := c4
  try simp only [cnd] at c4
  refine jd (AW.seq (AW.seq (AW.region ?_)))
  refine qq Qt.move ?_
  refine cv Try.call51 rfl rfl (l5Word_con _) ?_
  refine nm ?_
  refine qq (Qt.notB rfl) ?_
  refine nl ?_
  refine AW.cond rfl (fun c6 => ?_) (fun c6 => ?_)
  ·have k6 := c6
   try simp only [cnd] at c6
   refine AW.seq (AW.region ?_)
   refine qq (Qt.loadG rfl rfl rfl ag36 sz36 (by decide)) ?_
   refine sp (Stp.callH rfl (by decide) Try.call52 rfl (l5Fault_con _) rfl rfl rfl (nodup_of rfl) rfl rfl) ?_
   refine nm ?_
   refine qq (Qt.extract rfl (of_decide_eq_true rfl)) ?_
   refine qq (Qt.extract rfl (of_decide_eq_true rfl)) ?_
   refine ss ?_
   refine nm ?_
   refine ss ?_
   refine nl ?_
   refine AW.ret (endQ_ret (.cons (.cellG 6 36 rfl rfl rfl ag36 sz36 (by decide)) (.cons (.cellG 7 40 rfl rfl rfl ag40 sz40 (by decide)) .nil)) ?_)
   rw [show execC p c mem = (c, didFault) from hE.trans (by unfold core; repeat (first | rw [if_pos (by omega)] | rw [if_neg (by omega)]))]
   refine ⟨fun n => n, rfl, fun _ _ => rfl, List.nodup_nil, (by simp), ?_⟩
   intro q hq
   cases List.mem_singleton.1 hq
   exact rootL_mem rfl
  have k6 := c6
  try simp only [cnd] at c6
  refine jd (AW.region ?_)
  refine qq (fA fl36_1) ?_
  refine nm ?_
  refine qq (Qt.load1 rfl rfl rfl ag34) ?_
  refine qq (fA fl45_1) ?_
  refine qq (Qt.load1 rfl rfl rfl ag3) ?_
  refine nm ?_
  refine qq Qt.move ?_
  refine qq (Qt.indexAddr rfl rfl rfl rfl sl34 sz3 (by decide) (by omega)) ?_
  refine ss ?_
  refine nl ?_
  refine AW.seq (AW.region ?_)
  refine qq Qt.move ?_
  refine nm ?_
  refine qq (fA fl36_0) ?_
  refine ss ?_
  refine nl ?_
  refine AW.seq ?_
  refine AW.draw [0, 1] rfl (by decide +kernel) ?_
  refine tk 0 rfl (Qt.loadG rfl rfl rfl ag36 sz36 (by decide)) ?_
  refine na ?_
  refine tk 1 rfl (Qt.loadG rfl rfl rfl ag40 sz40 (by decide)) ?_
  refine a1 2 [1] [0] rfl rfl (by first | exact Stp.storeA rfl rfl rfl rfl (by decide) rfl | exact Stp.store rfl rfl (by simp) rfl rfl rfl (by decide) rfl) ?_
  refine na ?_
  refine AWA.againE rfl rfl (by decide +kernel) (.on rfl rfl (Qt.loadG rfl rfl rfl ag40 sz40 (by decide))) rfl ?_
  refine na ?_
  refine a1 3 [] [2, 1, 0] rfl rfl (by first | exact Stp.storeA rfl rfl rfl rfl (by decide) rfl | exact Stp.store rfl rfl (by simp) rfl rfl rfl (by decide) rfl) ?_
  refine na ?_
  refine na ?_
  refine nz ?_
  refine AW.rep (base + 1) (tr (c.Regs.set (p.getD c.Pc.toNat En.dflt).A.toNat ((c.Regs.getD (p.getD c.Pc.toNat En.dflt).B.toNat En.dflt) + (c.Regs.getD (p.getD c.Pc.toNat En.dflt).C.toNat En.dflt)))) rfl (set_sim (fun k c hk => by simp only [upd_app, hk, false_and, if_false]; try rfl) (fun c hc => match c, hc with | 0, _ => (by simp only [upd_app, eq_self, and_self, if_true]; exact T.sim_refl _) | c + 1, hc => absurd hc (by simp only [En.n]; omega))) ?_
  refine AW.ret (endQ_ret (.cons (.cellG 6 36 rfl rfl rfl ag36 sz36 (by decide)) (.cons (.cellG 7 40 rfl rfl rfl ag40 sz40 (by decide)) .nil)) ?_)
  rw [show execC p c mem = (⟨c.Pc + 1, c.Regs.set (p.getD c.Pc.toNat En.dflt).A.toNat ((c.Regs.getD (p.getD c.Pc.toNat En.dflt).B.toNat En.dflt) + (c.Regs.getD (p.getD c.Pc.toNat En.dflt).C.toNat En.dflt))⟩, didNone) from hE.trans (by unfold core; repeat (first | rw [if_pos (by omega)] | rw [if_neg (by omega)]))]
  refine ⟨fun n => n, rfl, fun _ _ => rfl, List.nodup_nil, (by simp), ?_⟩
  intro q hq
  cases List.mem_singleton.1 hq
  exact rootL_mem rfl
 have k3 := c3
 try simp only [cnd] at c3
 refine AW.region ?_
 refine qq (Qt.binOp rfl rfl rfl) ?_
 refine qq Qt.assign ?_
 refine nl ?_
 refine AW.cond rfl (fun c7 => ?_) (fun c7 => ?_)
 ·have k7 := c7
  try simp only [cnd] at c7
  refine AW.seq ?_
  refine AW.draw [0, 1, 2, 3, 4, 5, 6, 7, 8, 9, 10, 11, 12, 13] rfl (by decide +kernel) ?_
  refine tk 0 rfl (fA fl36_1) ?_
  refine na ?_
  refine tk 1 rfl (Qt.load1 rfl rfl rfl ag34) ?_
  refine tk 2 rfl (fA fl45_2) ?_
  refine tk 3 rfl (Qt.load1 rfl rfl rfl ag3) ?_
  refine na ?_
  refine tk 4 rfl (Qt.indexAddr rfl rfl rfl rfl sl34 sz3 (by decide) (by omega)) ?_
  refine tk 5 rfl (Qt.load1 rfl rfl rfl ag3) ?_
  refine tk 6 rfl (fA fl36_1) ?_
  refine na ?_
  refine tk 7 rfl (Qt.load1 rfl rfl rfl ag34) ?_
  refine tk 8 rfl (fA fl45_3) ?_
  refine tk 9 rfl (Qt.load1 rfl rfl rfl ag3) ?_
  refine na ?_
  refine tk 10 rfl (Qt.indexAddr rfl rfl rfl rfl sl34 sz3 (by decide) (by omega)) ?_
  refine tk 11 rfl (Qt.load1 rfl rfl rfl ag3) ?_
  refine tk 12 rfl (Qt.binOp rfl rfl (by first | exact pbAdd (by omega) | rfl)) ?_
  refine na ?_
  refine tk 13 rfl Qt.assign ?_
  refine nz ?_
  refine AW.seq (AW.seq (AW.region ?_))
  refine qq (fA fl45_0) ?_
  refine qq (Qt.load1 rfl rfl rfl ag3) ?_
  refine nm ?_
  refine qq (Qt.binOp rfl rfl rfl) ?_
  refine nl ?_
  refine AW.cond rfl (fun c8 => ?_) (fun c8 => ?_)
  ·have k8 := c8
   try simp only [cnd] at c8
   refine AW.draw [0, 1, 2, 3, 4, 5, 6, 7, 8, 9, 10, 11, 12, 13] rfl (by decide +kernel) ?_
   refine tk 0 rfl (fA fl36_1) ?_
   refine tk 1 rfl (Qt.load1 rfl rfl rfl ag34) ?_
   refine na ?_
   refine tk 2 rfl (fA fl45_2) ?_
   refine tk 3 rfl (Qt.load1 rfl rfl rfl ag3) ?_
   refine tk 4 rfl (Qt.indexAddr rfl rfl rfl rfl sl34 sz3 (by decide) (by omega)) ?_
   refine na ?_
   refine tk 5 rfl (Qt.load1 rfl rfl rfl ag3) ?_
   refine tk 6 rfl (fA fl36_1) ?_
   refine tk 7 rfl (Qt.load1 rfl rfl rfl ag34) ?_
   refine na ?_
   refine tk 8 rfl (fA fl45_3) ?_
   refine tk 9 rfl (Qt.load1 rfl rfl rfl ag3) ?_
   refine tk 10 rfl (Qt.indexAddr rfl rfl rfl rfl sl34 sz3 (by decide) (by omega)) ?_
   refine na ?_
   refine tk 11 rfl (Qt.load1 rfl rfl rfl ag3) ?_
   refine tk 12 rfl (Qt.binOp rfl rfl (by first | exact pbSub (by omega) | rfl)) ?_
   refine tk 13 rfl Qt.assign ?_
   refine na ?_
   refine nz ?_
   refine AW.seq (AW.seq (AW.region ?_))
   refine qq Qt.move ?_
   refine cv Try.call51 rfl rfl (l5Word_con _) ?_
   refine nm ?_
   refine qq (Qt.notB rfl) ?_
   refine nl ?_
   refine AW.cond rfl (fun c9 => ?_) (fun c9 => ?_)
   ·have k9 := c9
    try simp only [cnd] at c9
    refine AW.seq (AW.region ?_)
    refine qq (Qt.loadG rfl rfl rfl ag36 sz36 (by decide)) ?_
    refine sp (Stp.callH rfl (by decide) Try.call52 rfl (l5Fault_con _) rfl rfl rfl (nodup_of rfl) rfl rfl) ?_
    refine nm ?_
    refine qq (Qt.extract rfl (of_decide_eq_true rfl)) ?_
    refine qq (Qt.extract rfl (of_decide_eq_true rfl)) ?_
    refine ss ?_
    refine nm ?_
    refine ss ?_
    refine nl ?_
    refine AW.ret (endQ_ret (.cons (.cellG 6 36 rfl rfl rfl ag36 sz36 (by decide)) (.cons (.cellG 7 40 rfl rfl rfl ag40 sz40 (by decide)) .nil)) ?_)
    rw [show execC p c mem = (c, didFault) from hE.trans (by unfold core; repeat (first | rw [if_pos (by omega)] | rw [if_neg (by omega)]))]
    refine ⟨fun n => n, rfl, fun _ _ => rfl, List.nodup_nil, (by simp), ?_⟩
    intro q hq
    cases List.mem_singleton.1 hq
    exact rootL_mem rfl
   have k9 := c9
   try simp only [cnd] at c9
   refine jd (AW.region ?_)
   refine qq (fA fl36_1) ?_
   refine nm ?_
   refine qq (Qt.load1 rfl rfl rfl ag34) ?_
   refine qq (fA fl45_1) ?_
   refine qq (Qt.load1 rfl rfl rfl ag3) ?_
   refine nm ?_
   refine qq Qt.move ?_
   refine qq (Qt.indexAddr rfl rfl rfl rfl sl34 sz3 (by decide) (by omega)) ?_
   refine ss ?_
   refine nl ?_
   refine AW.seq (AW.region ?_)
   refine qq Qt.move ?_
   refine nm ?_
   refine qq (fA fl36_0) ?_
   refine ss ?_
   refine nl ?_
   refine AW.seq ?_
   refine AW.draw [0, 1] rfl (by decide +kernel) ?_
   refine tk 0 rfl (Qt.loadG rfl rfl rfl ag36 sz36 (by decide)) ?_
   refine na ?_
   refine tk 1 rfl (Qt.loadG rfl rfl rfl ag40 sz40 (by decide)) ?_
   refine a1 2 [1] [0] rfl rfl (by first | exact Stp.storeA rfl rfl rfl rfl (by decide) rfl | exact Stp.store rfl rfl (by simp) rfl rfl rfl (by decide) rfl) ?_
   refine na ?_
   refine AWA.againE rfl rfl (by decide +kernel) (.on rfl rfl (Qt.loadG rfl rfl rfl ag40 sz40 (by decide))) rfl ?_
   refine na ?_
   refine a1 3 [] [2, 1, 0] rfl rfl (by first | exact Stp.storeA rfl rfl rfl rfl (by decide) rfl | exact Stp.store rfl rfl (by simp) rfl rfl rfl (by decide) rfl) ?_
   refine na ?_
   refine na ?_
   refine nz ?_
   refine AW.rep (base + 1) (tr (c.Regs.set (p.getD c.Pc.toNat En.dflt).A.toNat ((c.Regs.getD (p.getD c.Pc.toNat En.dflt).B.toNat En.dflt) - (c.Regs.getD (p.getD c.Pc.toNat En.dflt).C.toNat En.dflt)))) rfl (set_sim (fun k c hk => by simp only [upd_app, hk, false_and, if_false]; try rfl) (fun c hc => match c, hc with | 0, _ => (by simp only [upd_app, eq_self, and_self, if_true]; exact T.sim_refl _) | c + 1, hc => absurd hc (by simp only [En.n]; omega))) ?_
   refine AW.ret (endQ_ret (.cons (.cellG 6 36 rfl rfl rfl ag36 sz36 (by decide)) (.cons (.cellG 7 40 rfl rfl rfl ag40 sz40 (by decide)) .nil)) ?_)
   rw [show execC p c mem = (⟨c.Pc + 1, c.Regs.set (p.getD c.Pc.toNat En.dflt).A.toNat ((c.Regs.getD (p.getD c.Pc.toNat En.dflt).B.toNat En.dflt) - (c.Regs.getD (p.getD c.Pc.toNat En.dflt).C.toNat En.dflt))⟩, didNone) from hE.trans (by unfold core; repeat (first | rw [if_pos (by omega)] | rw [if_neg (by omega)]))]
   refine ⟨fun n => n, rfl, fun _ _ => rfl, List.nodup_nil, (by simp), ?_⟩
   intro q hq
   cases List.mem_singleton.1 hq
   exact rootL_mem rfl
  have k8 := c8
  try simp only [cnd] at c8
  refine jd (AW.seq (AW.seq (AW.region ?_)))
  refine qq Qt.move ?_
  refine cv Try.call51 rfl rfl (l5Word_con _) ?_
  refine nm ?_
  refine qq (Qt.notB rfl) ?_
  refine nl ?_
  refine AW.cond rfl (fun c10 => ?_) (fun c10 => ?_)
  ·have k10 := c10
   try simp only [cnd] at c10
   refine AW.seq (AW.region ?_)
   refine qq (Qt.loadG rfl rfl rfl ag36 sz36 (by decide)) ?_
   refine sp (Stp.callH rfl (by decide) Try.call52 rfl (l5Fault_con _) rfl rfl rfl (nodup_of rfl) rfl rfl) ?_
   refine nm ?_
   refine qq (Qt.extract rfl (of_decide_eq_true rfl)) ?_
   refine qq (Qt.extract rfl (of_decide_eq_true rfl)) ?_
   refine ss ?_
   refine nm ?_
   refine ss ?_
   refine nl ?_
   refine AW.ret (endQ_ret (.cons (.cellG 6 36 rfl rfl rfl ag36 sz36 (by decide)) (.cons (.cellG 7 40 rfl rfl rfl ag40 sz40 (by decide)) .nil)) ?_)
   exfalso; omega
  have k10 := c10
  try simp only [cnd] at c10
  refine jd (AW.region ?_)
  refine qq (fA fl36_1) ?_
  refine nm ?_
  refine qq (Qt.load1 rfl rfl rfl ag34) ?_
  refine qq (fA fl45_1) ?_
  refine qq (Qt.load1 rfl rfl rfl ag3) ?_
  refine nm ?_
  refine qq Qt.move ?_
  refine qq (Qt.indexAddr rfl rfl rfl rfl sl34 sz3 (by decide) (by omega)) ?_
  refine ss ?_
  refine nl ?_
  refine AW.seq (AW.region ?_)
  refine qq Qt.move ?_
  refine nm ?_
  refine qq (fA fl36_0) ?_
  refine ss ?_
  refine nl ?_
  refine AW.seq ?_
  refine AW.draw [0, 1] rfl (by decide +kernel) ?_
  refine tk 0 rfl (Qt.loadG rfl rfl rfl ag36 sz36 (by decide)) ?_
  refine na ?_
  refine tk 1 rfl (Qt.loadG rfl rfl rfl ag40 sz40 (by decide)) ?_
  refine a1 2 [1] [0] rfl rfl (by first | exact Stp.storeA rfl rfl rfl rfl (by decide) rfl | exact Stp.store rfl rfl (by simp) rfl rfl rfl (by decide) rfl) ?_
  refine na ?_
  refine AWA.againE rfl rfl (by decide +kernel) (.on rfl rfl (Qt.loadG rfl rfl rfl ag40 sz40 (by decide))) rfl ?_
  refine na ?_
  refine a1 3 [] [2, 1, 0] rfl rfl (by first | exact Stp.storeA rfl rfl rfl rfl (by decide) rfl | exact Stp.store rfl rfl (by simp) rfl rfl rfl (by decide) rfl) ?_
  refine na ?_
  refine na ?_
  refine nz ?_
  refine AW.ret (endQ_ret (.cons (.cellG 6 36 rfl rfl rfl ag36 sz36 (by decide)) (.cons (.cellG 7 40 rfl rfl rfl ag40 sz40 (by decide)) .nil)) ?_)
  exfalso; omega
 have k7 := c7
 try simp only [cnd] at c7
 refine AW.seq (AW.seq (AW.region ?_))
 refine qq (Qt.binOp rfl rfl rfl) ?_
 refine qq Qt.assign ?_
 refine nl ?_
 refine AW.cond rfl (fun c11 => ?_) (fun c11 => ?_)
 ·have k11 := c11
  try simp only [cnd] at c11
  refine jd ?_
  refine AW.condT rfl k11 ?_
  refine AW.seq (AW.region ?_)
  refine qq (fA fl36_1) ?_
  refine nm ?_
  refine qq (Qt.load1 rfl rfl rfl ag34) ?_
  refine qq (fA fl45_2) ?_
  refine qq (Qt.load1 rfl rfl rfl ag3) ?_
  refine nm ?_
  refine qq (Qt.indexAddr rfl rfl rfl rfl sl34 sz3 (by decide) (by omega)) ?_
  refine qq (Qt.load1 rfl rfl rfl ag3) ?_
  refine qq Qt.assign ?_
  refine nl ?_
  refine AW.seq (AW.seq (AW.region ?_))
  refine qq Qt.move ?_
  refine nm ?_
  refine qq (Qt.binOp rfl rfl rfl) ?_
  refine qq Qt.move ?_
  apply AWL.cut 4
  ·intro Kg12
   refine AWL.splitF 102 rfl (fun g12 => ?_) (fun g12 => ?_)
   ·refine qg (nF g12) Qt.move ?_
    refine nm ?_
    refine qg (nF g12) Qt.move ?_
    refine qg (nF g12) (Qt.lenH rfl rfl rfl sl34) ?_
    refine qg (nF g12) (Qt.binOp rfl rfl rfl) ?_
    refine nm ?_
    exact wj 106 [103, 104, 105, 106] (ifF g12 _ undef) (by simp only [go_sem, Int.reduceToNat, Nat.reduceLT, reduceIte, Nat.reduceEqDiff, Nat.reduceAdd, Nat.reduceMul, Nat.reduceBEq, reduceCtorEq]; rfl) Kg12
   ·refine og (nT g12) ?_
    refine og (nT g12) ?_
    refine og (nT g12) ?_
    refine og (nT g12) ?_
    exact wj 106 [103, 104, 105, 106] (ifT g12 undef _) (by simp only [go_sem, Int.reduceToNat, Nat.reduceLT, reduceIte, Nat.reduceEqDiff, Nat.reduceAdd, Nat.reduceMul, Nat.reduceBEq, reduceCtorEq]) Kg12
  refine qq (Qt.pickOr rfl rfl rfl) ?_
  refine nl ?_
  refine AW.cond rfl (fun c13 => ?_) (fun c13 => ?_)
  ·have k13 := c13
   try simp only [cnd] at c13
   refine AW.seq (AW.region ?_)
   refine qq (Qt.loadG rfl rfl rfl ag36 sz36 (by decide)) ?_
   refine sp (Stp.callH rfl (by decide) Try.call52 rfl (l5Fault_con _) rfl rfl rfl (nodup_of rfl) rfl rfl) ?_
   refine nm ?_
   refine qq (Qt.extract rfl (of_decide_eq_true rfl)) ?_
   refine qq (Qt.extract rfl (of_decide_eq_true rfl)) ?_
   refine ss ?_
   refine nm ?_
   refine ss ?_
   refine nl ?_
   refine AW.ret (endQ_ret (.cons (.cellG 6 36 rfl rfl rfl ag36 sz36 (by decide)) (.cons (.cellG 7 40 rfl rfl rfl ag40 sz40 (by decide)) .nil)) ?_)
   rw [show execC p c mem = (c, didFault) from hE.trans (by unfold core; repeat (first | rw [if_pos (by omega)] | rw [if_neg (by omega)]))]
   refine ⟨fun n => n, rfl, fun _ _ => rfl, List.nodup_nil, (by simp), ?_⟩
   intro q hq
   cases List.mem_singleton.1 hq
   exact rootL_mem rfl
  have k13 := c13
  try simp only [cnd] at c13
  refine jd (AW.seq (AW.region ?_))
  refine qq (fA fl45_0) ?_
  refine nm ?_
  refine qq (Qt.load1 rfl rfl rfl ag3) ?_
  refine qq (Qt.binOp rfl rfl rfl) ?_
  refine nl ?_
  refine AW.cond rfl (fun c14 => ?_) (fun c14 => ?_)
  ·have k14 := c14
   try simp only [cnd] at c14
   refine AW.draw [0, 1, 2, 3, 4, 5, 6, 7, 8] rfl (by decide +kernel) ?_
   refine tk 0 rfl (fA fl36_1) ?_
   refine na ?_
   refine tk 1 rfl (Qt.load1 rfl rfl rfl ag34) ?_
   refine tk 2 rfl (fA fl45_1) ?_
   refine tk 3 rfl (Qt.load1 rfl rfl rfl ag3) ?_
   refine na ?_
   refine tk 4 rfl Qt.move ?_
   refine tk 5 rfl Qt.move ?_
   refine tk 6 rfl (Qt.indexAddr rfl rfl rfl rfl sl34 sz3 (by decide) (by omega)) ?_
   refine na ?_
   refine tk 7 rfl (Qt.load1 rfl rfl rfl ag3) ?_
   refine tk 8 rfl (Qt.indexAddr rfl rfl rfl rfl sl34 sz3 (by decide) (by omega)) ?_
   refine a1 9 [] [8, 7, 6, 5, 4, 3, 2, 1, 0] rfl rfl (by first | exact Stp.storeA rfl rfl rfl rfl (by decide) rfl | exact Stp.store rfl rfl (by simp) rfl rfl rfl (by decide) rfl) ?_
   refine na ?_
   refine na ?_
   refine nz ?_
   refine AW.seq (AW.region ?_)
   refine qq Qt.move ?_
   refine qq (fA fl36_0) ?_
   refine ss ?_
   refine nl ?_
   refine AW.seq ?_
   refine AW.draw [0, 1] rfl (by decide +kernel) ?_
   refine tk 0 rfl (Qt.loadG rfl rfl rfl ag36 sz36 (by decide)) ?_
   refine na ?_
   refine tk 1 rfl (Qt.loadG rfl rfl rfl ag40 sz40 (by decide)) ?_
   refine a1 2 [1] [0] rfl rfl (by first | exact Stp.storeA rfl rfl rfl rfl (by decide) rfl | exact Stp.store rfl rfl (by simp) rfl rfl rfl (by decide) rfl) ?_
   refine na ?_
   refine AWA.againE rfl rfl (by decide +kernel) (.on rfl rfl (Qt.loadG rfl rfl rfl ag40 sz40 (by decide))) rfl ?_
   refine na ?_
   refine a1 3 [] [2, 1, 0] rfl rfl (by first | exact Stp.storeA rfl rfl rfl rfl (by decide) rfl | exact Stp.store rfl rfl (by simp) rfl rfl rfl (by decide) rfl) ?_
   refine na ?_
   refine na ?_
   refine nz ?_
   refine AW.rep (base + 1) (tr (c.Regs.set (p.getD c.Pc.toNat En.dflt).A.toNat (mem.getD (c.Regs.getD (p.getD c.Pc.toNat En.dflt).B.toNat En.dflt).toNat En.dflt))) rfl (set_sim (fun k c hk => by simp only [upd_app, hk, false_and, if_false]; try rfl) (fun c hc => match c, hc with | 0, _ => (by simp only [upd_app, eq_self, and_self, if_true]; exact T.sim_refl _) | c + 1, hc => absurd hc (by simp only [En.n]; omega))) ?_
   refine AW.ret (endQ_ret (.cons (.cellG 6 36 rfl rfl rfl ag36 sz36 (by decide)) (.cons (.cellG 7 40 rfl rfl rfl ag40 sz40 (by decide)) .nil)) ?_)
   rw [show execC p c mem = (⟨c.Pc + 1, c.Regs.set (p.getD c.Pc.toNat En.dflt).A.toNat (mem.getD (c.Regs.getD (p.getD c.Pc.toNat En.dflt).B.toNat En.dflt).toNat En.dflt)⟩, didNone) from hE.trans (by unfold core; repeat (first | rw [if_pos (by omega)] | rw [if_neg (by omega)]))]
   refine ⟨fun n => n, rfl, fun _ _ => rfl, List.nodup_nil, (by simp), ?_⟩
   intro q hq
   cases List.mem_singleton.1 hq
   exact rootL_mem rfl
  have k14 := c14
  try simp only [cnd] at c14
  refine AW.seq (AW.region ?_)
  refine qq Qt.move ?_
  refine qq (fA fl40_1) ?_
  refine ss ?_
  refine nl ?_
  refine AW.region ?_
  refine qq (fA fl36_1) ?_
  refine nm ?_
  refine qq (Qt.load1 rfl rfl rfl ag34) ?_
  refine qq (fA fl45_1) ?_
  refine qq (Qt.load1 rfl rfl rfl ag3) ?_
  refine nm ?_
  refine qq (Qt.indexAddr rfl rfl rfl rfl sl34 sz3 (by decide) (by omega)) ?_
  refine qq (Qt.load1 rfl rfl rfl ag3) ?_
  refine qq (fA fl40_2) ?_
  refine nm ?_
  refine ss ?_
  refine nl ?_
  refine AW.seq (AW.region ?_)
  refine qq Qt.move ?_
  refine nm ?_
  refine qq (fA fl36_0) ?_
  refine ss ?_
  refine nl ?_
  refine AW.seq ?_
  refine AW.draw [0, 1] rfl (by decide +kernel) ?_
  refine tk 0 rfl (Qt.loadG rfl rfl rfl ag36 sz36 (by decide)) ?_
  refine na ?_
  refine tk 1 rfl (Qt.loadG rfl rfl rfl ag40 sz40 (by decide)) ?_
  refine a1 2 [1] [0] rfl rfl (by first | exact Stp.storeA rfl rfl rfl rfl (by decide) rfl | exact Stp.store rfl rfl (by simp) rfl rfl rfl (by decide) rfl) ?_
  refine na ?_
  refine AWA.againE rfl rfl (by decide +kernel) (.on rfl rfl (Qt.loadG rfl rfl rfl ag40 sz40 (by decide))) rfl ?_
  refine na ?_
  refine a1 3 [] [2, 1, 0] rfl rfl (by first | exact Stp.storeA rfl rfl rfl rfl (by decide) rfl | exact Stp.store rfl rfl (by simp) rfl rfl rfl (by decide) rfl) ?_
  refine na ?_
  refine na ?_
  refine nz ?_
  refine AW.ret (endQ_ret (.cons (.cellG 6 36 rfl rfl rfl ag36 sz36 (by decide)) (.cons (.cellG 7 40 rfl rfl rfl ag40 sz40 (by decide)) .nil)) ?_)
  exfalso; omega
 have k11 := c11
 try simp only [cnd] at c11
 refine AW.region ?_
 refine qq (Qt.binOp rfl rfl rfl) ?_
 refine qq Qt.assign ?_
 refine nl ?_
 refine AW.cond rfl (fun c15 => ?_) (fun c15 => ?_)
 ·have k15 := c15
  try simp only [cnd] at c15
  refine AW.seq (AW.region ?_)
  refine qq (fA fl36_1) ?_
  refine nm ?_
  refine qq (Qt.load1 rfl rfl rfl ag34) ?_
  refine qq (fA fl45_2) ?_
  refine qq (Qt.load1 rfl rfl rfl ag3) ?_
  refine nm ?_
  refine qq (Qt.indexAddr rfl rfl rfl rfl sl34 sz3 (by decide) (by omega)) ?_
  refine qq (Qt.load1 rfl rfl rfl ag3) ?_
  refine qq Qt.assign ?_
  refine nl ?_
  refine AW.seq (AW.seq (AW.region ?_))
  refine qq Qt.move ?_
  refine nm ?_
  refine qq (Qt.binOp rfl rfl rfl) ?_
  refine qq Qt.move ?_
  apply AWL.cut 4
  ·intro Kg16
   refine AWL.splitF 102 rfl (fun g16 => ?_) (fun g16 => ?_)
   ·refine qg (nF g16) Qt.move ?_
    refine nm ?_
    refine qg (nF g16) Qt.move ?_
    refine qg (nF g16) (Qt.lenH rfl rfl rfl sl34) ?_
    refine qg (nF g16) (Qt.binOp rfl rfl rfl) ?_
    refine nm ?_
    exact wj 106 [103, 104, 105, 106] (ifF g16 _ undef) (by simp only [go_sem, Int.reduceToNat, Nat.reduceLT, reduceIte, Nat.reduceEqDiff, Nat.reduceAdd, Nat.reduceMul, Nat.reduceBEq, reduceCtorEq]; rfl) Kg16
   ·refine og (nT g16) ?_
    refine og (nT g16) ?_
    refine og (nT g16) ?_
    refine og (nT g16) ?_
    exact wj 106 [103, 104, 105, 106] (ifT g16 undef _) (by simp only [go_sem, Int.reduceToNat, Nat.reduceLT, reduceIte, Nat.reduceEqDiff, Nat.reduceAdd, Nat.reduceMul, Nat.reduceBEq, reduceCtorEq]) Kg16
  refine qq (Qt.pickOr rfl rfl rfl) ?_
  refine nl ?_
  refine AW.cond rfl (fun c17 => ?_) (fun c17 => ?_)
  ·have k17 := c17
   try simp only [cnd] at c17
   refine AW.seq (AW.region ?_)
   refine qq (Qt.loadG rfl rfl rfl ag36 sz36 (by decide)) ?_
   refine sp (Stp.callH rfl (by decide) Try.call52 rfl (l5Fault_con _) rfl rfl rfl (nodup_of rfl) rfl rfl) ?_
   refine nm ?_
   refine qq (Qt.extract rfl (of_decide_eq_true rfl)) ?_
   refine qq (Qt.extract rfl (of_decide_eq_true rfl)) ?_
   refine ss ?_
   refine nm ?_
   refine ss ?_
   refine nl ?_
   refine AW.ret (endQ_ret (.cons (.cellG 6 36 rfl rfl rfl ag36 sz36 (by decide)) (.cons (.cellG 7 40 rfl rfl rfl ag40 sz40 (by decide)) .nil)) ?_)
   rw [show execC p c mem = (c, didFault) from hE.trans (by unfold core; repeat (first | rw [if_pos (by omega)] | rw [if_neg (by omega)]))]
   refine ⟨fun n => n, rfl, fun _ _ => rfl, List.nodup_nil, (by simp), ?_⟩
   intro q hq
   cases List.mem_singleton.1 hq
   exact rootL_mem rfl
  have k17 := c17
  try simp only [cnd] at c17
  refine jd (AW.seq (AW.region ?_))
  refine qq (fA fl45_0) ?_
  refine nm ?_
  refine qq (Qt.load1 rfl rfl rfl ag3) ?_
  refine qq (Qt.binOp rfl rfl rfl) ?_
  refine nl ?_
  refine AW.cond rfl (fun c18 => ?_) (fun c18 => ?_)
  ·have k18 := c18
   try simp only [cnd] at c18
   refine AW.draw [0, 1, 2, 3, 4, 5, 6, 7, 8] rfl (by decide +kernel) ?_
   refine tk 0 rfl (fA fl36_1) ?_
   refine na ?_
   refine tk 1 rfl (Qt.load1 rfl rfl rfl ag34) ?_
   refine tk 2 rfl (fA fl45_1) ?_
   refine tk 3 rfl (Qt.load1 rfl rfl rfl ag3) ?_
   refine na ?_
   refine tk 4 rfl Qt.move ?_
   refine tk 5 rfl Qt.move ?_
   refine tk 6 rfl (Qt.indexAddr rfl rfl rfl rfl sl34 sz3 (by decide) (by omega)) ?_
   refine na ?_
   refine tk 7 rfl (Qt.load1 rfl rfl rfl ag3) ?_
   refine tk 8 rfl (Qt.indexAddr rfl rfl rfl rfl sl34 sz3 (by decide) (by omega)) ?_
   refine a1 9 [] [8, 7, 6, 5, 4, 3, 2, 1, 0] rfl rfl (by first | exact Stp.storeA rfl rfl rfl rfl (by decide) rfl | exact Stp.store rfl rfl (by simp) rfl rfl rfl (by decide) rfl) ?_
   refine na ?_
   refine na ?_
   refine nz ?_
   refine AW.seq (AW.region ?_)
   refine qq Qt.move ?_
   refine qq (fA fl36_0) ?_
   refine ss ?_
   refine nl ?_
   refine AW.seq ?_
   refine AW.draw [0, 1] rfl (by decide +kernel) ?_
   refine tk 0 rfl (Qt.loadG rfl rfl rfl ag36 sz36 (by decide)) ?_
   refine na ?_
   refine tk 1 rfl (Qt.loadG rfl rfl rfl ag40 sz40 (by decide)) ?_
   refine a1 2 [1] [0] rfl rfl (by first | exact Stp.storeA rfl rfl rfl rfl (by decide) rfl | exact Stp.store rfl rfl (by simp) rfl rfl rfl (by decide) rfl) ?_
   refine na ?_
   refine AWA.againE rfl rfl (by decide +kernel) (.on rfl rfl (Qt.loadG rfl rfl rfl ag40 sz40 (by decide))) rfl ?_
   refine na ?_
   refine a1 3 [] [2, 1, 0] rfl rfl (by first | exact Stp.storeA rfl rfl rfl rfl (by decide) rfl | exact Stp.store rfl rfl (by simp) rfl rfl rfl (by decide) rfl) ?_
   refine na ?_
   refine na ?_
   refine nz ?_
   refine AW.ret (endQ_ret (.cons (.cellG 6 36 rfl rfl rfl ag36 sz36 (by decide)) (.cons (.cellG 7 40 rfl rfl rfl ag40 sz40 (by decide)) .nil)) ?_)
   exfalso; omega
  have k18 := c18
  try simp only [cnd] at c18
  refine AW.seq (AW.region ?_)
  refine qq Qt.move ?_
  refine qq (fA fl40_1) ?_
  refine ss ?_
  refine nl ?_
  refine AW.region ?_
  refine qq (fA fl36_1) ?_
  refine nm ?_
  refine qq (Qt.load1 rfl rfl rfl ag34) ?_
  refine qq (fA fl45_1) ?_
  refine qq (Qt.load1 rfl rfl rfl ag3) ?_
  refine nm ?_
  refine qq (Qt.indexAddr rfl rfl rfl rfl sl34 sz3 (by decide) (by omega)) ?_
  refine qq (Qt.load1 rfl rfl rfl ag3) ?_
  refine qq (fA fl40_2) ?_
  refine nm ?_
  refine ss ?_
  refine nl ?_
  refine AW.seq (AW.region ?_)
  refine qq Qt.move ?_
  refine nm ?_
  refine qq (fA fl36_0) ?_
  refine ss ?_
  refine nl ?_
  refine AW.seq ?_
  refine AW.draw [0, 1] rfl (by decide +kernel) ?_
  refine tk 0 rfl (Qt.loadG rfl rfl rfl ag36 sz36 (by decide)) ?_
  refine na ?_
  refine tk 1 rfl (Qt.loadG rfl rfl rfl ag40 sz40 (by decide)) ?_
  refine a1 2 [1] [0] rfl rfl (by first | exact Stp.storeA rfl rfl rfl rfl (by decide) rfl | exact Stp.store rfl rfl (by simp) rfl rfl rfl (by decide) rfl) ?_
  refine na ?_
  refine AWA.againE rfl rfl (by decide +kernel) (.on rfl rfl (Qt.loadG rfl rfl rfl ag40 sz40 (by decide))) rfl ?_
  refine na ?_
  refine a1 3 [] [2, 1, 0] rfl rfl (by first | exact Stp.storeA rfl rfl rfl rfl (by decide) rfl | exact Stp.store rfl rfl (by simp) rfl rfl rfl (by decide) rfl) ?_
  refine na ?_
  refine na ?_
  refine nz ?_
  refine AW.ret (endQ_ret (.cons (.cellG 6 36 rfl rfl rfl ag36 sz36 (by decide)) (.cons (.cellG 7 40 rfl rfl rfl ag40 sz40 (by decide)) .nil)) ?_)
  rw [show execC p c mem = (⟨c.Pc + 1, c.Regs⟩, ⟨0, (c.Regs.getD (p.getD c.Pc.toNat En.dflt).B.toNat En.dflt), (c.Regs.getD (p.getD c.Pc.toNat En.dflt).A.toNat En.dflt), 0⟩) from hE.trans (by unfold core; repeat (first | rw [if_pos (by omega)] | rw [if_neg (by omega)]))]
  refine ⟨fun n => n, rfl, fun _ _ => rfl, List.nodup_nil, (by simp), ?_⟩
  intro q hq
  cases List.mem_singleton.1 hq
  exact rootL_mem rfl
 have k15 := c15
 try simp only [cnd] at c15
 refine AW.seq (AW.region ?_)
 refine qq (Qt.binOp rfl rfl rfl) ?_
 refine qq Qt.assign ?_
 refine nl ?_
 refine AW.cond rfl (fun c19 => ?_) (fun c19 => ?_)
 ·have k19 := c19
  try simp only [cnd] at c19
  refine AW.region ?_
  refine qq (fA fl45_1) ?_
  refine nm ?_
  refine qq (Qt.load1 rfl rfl rfl ag3) ?_
  refine qq Qt.assign ?_
  refine nl ?_
  refine AW.seq (AW.region ?_)
  refine qq Qt.move ?_
  refine nm ?_
  refine qq (fA fl36_0) ?_
  refine ss ?_
  refine nl ?_
  refine AW.seq ?_
  refine AW.draw [0, 1] rfl (by decide +kernel) ?_
  refine tk 0 rfl (Qt.loadG rfl rfl rfl ag36 sz36 (by decide)) ?_
  refine na ?_
  refine tk 1 rfl (Qt.loadG rfl rfl rfl ag40 sz40 (by decide)) ?_
  refine a1 2 [1] [0] rfl rfl (by first | exact Stp.storeA rfl rfl rfl rfl (by decide) rfl | exact Stp.store rfl rfl (by simp) rfl rfl rfl (by decide) rfl) ?_
  refine na ?_
  refine AWA.againE rfl rfl (by decide +kernel) (.on rfl rfl (Qt.loadG rfl rfl rfl ag40 sz40 (by decide))) rfl ?_
  refine na ?_
  refine a1 3 [] [2, 1, 0] rfl rfl (by first | exact Stp.storeA rfl rfl rfl rfl (by decide) rfl | exact Stp.store rfl rfl (by simp) rfl rfl rfl (by decide) rfl) ?_
  refine na ?_
  refine na ?_
  refine nz ?_
  refine AW.ret (endQ_ret (.cons (.cellG 6 36 rfl rfl rfl ag36 sz36 (by decide)) (.cons (.cellG 7 40 rfl rfl rfl ag40 sz40 (by decide)) .nil)) ?_)
  rw [show execC p c mem = (⟨(p.getD c.Pc.toNat En.dflt).A, c.Regs⟩, didNone) from hE.trans (by unfold core; repeat (first | rw [if_pos (by omega)] | rw [if_neg (by omega)]))]
  refine ⟨fun n => n, rfl, fun _ _ => rfl, List.nodup_nil, (by simp), ?_⟩
  intro q hq
  cases List.mem_singleton.1 hq
  exact rootL_mem rfl
 have k19 := c19
 try simp only [cnd] at c19
 refine AW.seq (AW.region ?_)
 refine qq (Qt.binOp rfl rfl rfl) ?_
 refine qq Qt.assign ?_
 refine nl ?_
 refine AW.cond rfl (fun c20 => ?_) (fun c20 => ?_)
 ·have k20 := c20
  try simp only [cnd] at c20
  refine AW.seq (AW.region ?_)
  refine qq (fA fl36_1) ?_
  refine nm ?_
  refine qq (Qt.load1 rfl rfl rfl ag34) ?_
  refine qq (fA fl45_1) ?_
  refine qq (Qt.load1 rfl rfl rfl ag3) ?_
  refine nm ?_
  refine qq (Qt.indexAddr rfl rfl rfl rfl sl34 sz3 (by decide) (by omega)) ?_
  refine qq (Qt.load1 rfl rfl rfl ag3) ?_
  refine qq (Qt.binOp rfl rfl rfl) ?_
  refine nl ?_
  refine AW.cond rfl (fun c21 => ?_) (fun c21 => ?_)
  ·have k21 := c21
   try simp only [cnd] at c21
   refine AW.region ?_
   refine qq (fA fl45_2) ?_
   refine nm ?_
   refine qq (Qt.load1 rfl rfl rfl ag3) ?_
   refine qq Qt.assign ?_
   refine nl ?_
   refine AW.seq (AW.region ?_)
   refine qq Qt.move ?_
   refine nm ?_
   refine qq (fA fl36_0) ?_
   refine ss ?_
   refine nl ?_
   refine AW.seq ?_
   refine AW.draw [0, 1] rfl (by decide +kernel) ?_
   refine tk 0 rfl (Qt.loadG rfl rfl rfl ag36 sz36 (by decide)) ?_
   refine na ?_
   refine tk 1 rfl (Qt.loadG rfl rfl rfl ag40 sz40 (by decide)) ?_
   refine a1 2 [1] [0] rfl rfl (by first | exact Stp.storeA rfl rfl rfl rfl (by decide) rfl | exact Stp.store rfl rfl (by simp) rfl rfl rfl (by decide) rfl) ?_
   refine na ?_
   refine AWA.againE rfl rfl (by decide +kernel) (.on rfl rfl (Qt.loadG rfl rfl rfl ag40 sz40 (by decide))) rfl ?_
   refine na ?_
   refine a1 3 [] [2, 1, 0] rfl rfl (by first | exact Stp.storeA rfl rfl rfl rfl (by decide) rfl | exact Stp.store rfl rfl (by simp) rfl rfl rfl (by decide) rfl) ?_
   refine na ?_
   refine na ?_
   refine nz ?_
   refine AW.ret (endQ_ret (.cons (.cellG 6 36 rfl rfl rfl ag36 sz36 (by decide)) (.cons (.cellG 7 40 rfl rfl rfl ag40 sz40 (by decide)) .nil)) ?_)
   rw [show execC p c mem = (⟨(p.getD c.Pc.toNat En.dflt).B, c.Regs⟩, didNone) from hE.trans (by unfold core; repeat (first | rw [if_pos (by omega)] | rw [if_neg (by omega)]))]
   refine ⟨fun n => n, rfl, fun _ _ => rfl, List.nodup_nil, (by simp), ?_⟩
   intro q hq
   cases List.mem_singleton.1 hq
   exact rootL_mem rfl
  have k21 := c21
  try simp only [cnd] at c21
  refine jd (AW.seq (AW.region ?_))
  refine qq Qt.move ?_
  refine qq (fA fl36_0) ?_
  refine ss ?_
  refine nl ?_
  refine AW.seq ?_
  refine AW.draw [0, 1] rfl (by decide +kernel) ?_
  refine tk 0 rfl (Qt.loadG rfl rfl rfl ag36 sz36 (by decide)) ?_
  refine na ?_
  refine tk 1 rfl (Qt.loadG rfl rfl rfl ag40 sz40 (by decide)) ?_
  refine a1 2 [1] [0] rfl rfl (by first | exact Stp.storeA rfl rfl rfl rfl (by decide) rfl | exact Stp.store rfl rfl (by simp) rfl rfl rfl (by decide) rfl) ?_
  refine na ?_
  refine AWA.againE rfl rfl (by decide +kernel) (.on rfl rfl (Qt.loadG rfl rfl rfl ag40 sz40 (by decide))) rfl ?_
  refine na ?_
  refine a1 3 [] [2, 1, 0] rfl rfl (by first | exact Stp.storeA rfl rfl rfl rfl (by decide) rfl | exact Stp.store rfl rfl (by simp) rfl rfl rfl (by decide) rfl) ?_
  refine na ?_
  refine na ?_
  refine nz ?_
  refine AW.ret (endQ_ret (.cons (.cellG 6 36 rfl rfl rfl ag36 sz36 (by decide)) (.cons (.cellG 7 40 rfl rfl rfl ag40 sz40 (by decide)) .nil)) ?_)
  rw [show execC p c mem = (⟨c.Pc + 1, c.Regs⟩, didNone) from hE.trans (by unfold core; repeat (first | rw [if_pos (by omega)] | rw [if_neg (by omega)]))]
  refine ⟨fun n => n, rfl, fun _ _ => rfl, List.nodup_nil, (by simp), ?_⟩
  intro q hq
  cases List.mem_singleton.1 hq
  exact rootL_mem rfl
 have k20 := c20
 try simp only [cnd] at c20
 refine AW.seq (AW.region ?_)
 refine qq (fA fl40_0) ?_
 refine ss ?_
 refine nl ?_
 refine AW.region ?_
 refine qq (fA fl45_1) ?_
 refine nm ?_
 refine qq (Qt.load1 rfl rfl rfl ag3) ?_
 refine qq (fA fl40_3) ?_
 refine ss ?_
 refine nl ?_
 refine AW.seq (AW.region ?_)
 refine qq Qt.move ?_
 refine nm ?_
 refine qq (fA fl36_0) ?_
 refine ss ?_
 refine nl ?_
 refine AW.seq ?_
 refine AW.draw [0, 1] rfl (by decide +kernel) ?_
 refine tk 0 rfl (Qt.loadG rfl rfl rfl ag36 sz36 (by decide)) ?_
 refine na ?_
 refine tk 1 rfl (Qt.loadG rfl rfl rfl ag40 sz40 (by decide)) ?_
 refine a1 2 [1] [0] rfl rfl (by first | exact Stp.storeA rfl rfl rfl rfl (by decide) rfl | exact Stp.store rfl rfl (by simp) rfl rfl rfl (by decide) rfl) ?_
 refine na ?_
 refine AWA.againE rfl rfl (by decide +kernel) (.on rfl rfl (Qt.loadG rfl rfl rfl ag40 sz40 (by decide))) rfl ?_
 refine na ?_
 refine a1 3 [] [2, 1, 0] rfl rfl (by first | exact Stp.storeA rfl rfl rfl rfl (by decide) rfl | exact Stp.store rfl rfl (by simp) rfl rfl rfl (by decide) rfl) ?_
 refine na ?_
 refine na ?_
 refine nz ?_
 refine AW.ret (endQ_ret (.cons (.cellG 6 36 rfl rfl rfl ag36 sz36 (by decide)) (.cons (.cellG 7 40 rfl rfl rfl ag40 sz40 (by decide)) .nil)) ?_)
 rw [show execC p c mem = (⟨c.Pc + 1, c.Regs⟩, ⟨1, -1, 0, (p.getD c.Pc.toNat En.dflt).A⟩) from hE.trans (by unfold core; repeat (first | rw [if_pos (by omega)] | rw [if_neg (by omega)]))]
 refine ⟨fun n => n, rfl, fun _ _ => rfl, List.nodup_nil, (by simp), ?_⟩
 intro q hq
 cases List.mem_singleton.1 hq
 exact rootL_mem rfl
end Go.Proofs.Ytbchjcapphclgaa.VM
