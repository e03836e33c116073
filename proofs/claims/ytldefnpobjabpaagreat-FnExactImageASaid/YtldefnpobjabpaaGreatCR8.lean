/- Contracts. No conditions. -/
import Derived.Test.YtldefnpobjabpaaGreatCR6
import Derived.Test.YtldefnpobjabpaaGreatCR7
import Derived.Test.YtldefnpobjabpaaGreatCUR
import Derived.Test.YtldefnpobjabpaaGreatCUT
import Derived.Test.YtldefnpobjabpaaGreatCR3
set_option linter.all false
set_option maxHeartbeats 8000000
set_option maxRecDepth 10000
namespace Go.Proofs.YtldefnpobjabpaaGreat.VM
open Go Go.RowKit Go.Proofs
def imgS (kind s : ByteArray) : ByteArray := (kind ++ fixK (crcF s).toNat 4) ++ s
def imgA (a : DArrays) : ByteArray := if aOk a = true then imgS ⟨#[65]⟩ (showOf (absU a)) else ByteArray.empty
theorem showOf_size {u : DUnix} (h : ShowF u) : (showOf u).size ≤ 1000000 := by
 have h1 := wzR_size h (Nat.le_refl _)
 have h2 := wordsS_size u.Out
 have h3 := h.out
 rw [showOf, ByteArray.size_append]
 omega
theorem fix_size (x : Int) : (fixK x.toNat 4).size = 4 := fixK_size _ _
theorem showU_t {u : DUnix} (h : unixOk u = true) : showU u = showOf u := if_pos h
theorem aOk_parts {a : DArrays} (h : aOk a = true) : shapeA a = true ∧ unixOk (absU a) = true := by
 unfold aOk at h
 rw [Bool.and_eq_true, Bool.and_eq_true] at h
 exact ⟨h.1, h.2.1⟩
theorem FixedSZ_con (x : Int) (h : 0 ≤ x ∧ x ≤ 4294967295) : Con Tryz.prog 170 [.v (.int .i64 x), .v (iv 4)] [] (fun y _ => y = .v (.string (fixK x.toNat 4))) := by
 obtain ⟨n, rfl⟩ := Int.eq_ofNat_of_zero_le h.1
 exact FixedS_con n (by omega)
theorem FixedIZ_con (x : Int) (h : 0 ≤ x ∧ x ≤ 4294967295) : Con Tryz.prog 173 [.v (.int .i64 x), .v (iv 4)] [] (fun y _ => y = .v (.string (fixK x.toNat 4))) := by
 obtain ⟨n, rfl⟩ := Int.eq_ofNat_of_zero_le h.1
 exact FixedI_con n (by omega)
set_option maxHeartbeats 4000000 in
set_option maxRecDepth 10000 in
theorem l20Image_con (kind : ByteArray) (u : DUnix) (hk : kind.size ≤ 10) (hF : ShowF u) : Con Tryz.prog 86 [.v (.string kind), .g [.v (iv u.Next), .v (iv u.Tick), .h base [], .h (base + 1) [], .h (base + 2) [], .h (base + 3) [], .h (base + 4) [], .h (base + 5) [], .h (base + 6) []]] [.rt base .ro (tr u.Progs), .rt (base + 1) .ro (tr u.Procs), .rt (base + 2) .ro (tr u.Opens), .rt (base + 3) .ro (tr u.Pipes), .rt (base + 4) .ro (tr u.Files), .rt (base + 5) .ro (tr u.Ready), .rt (base + 6) .ro (tr u.Out)] (fun y _ => y = .v (.string (imgS kind (showOf u)))) := by
 refine ob Tryz.func86 Tryz.ntmps86 ?_
 have hsz := showOf_size hF
 have hcf := crcF_bd (showOf u)
 have hfs := fix_size (crcF (showOf u))
 refine go [.R,.B,.N,.a,.Z,.R,.G] (k := ?_)
 refine cv Tryz.call169 rfl rfl (l20Show_con u hF) ?_
 refine go [.N,.a,.Z,.R,.m,.m,.N] (k := ?_)
 refine cv Tryz.call171 rfl rfl (CrcS_con (showOf u) (by omega)) ?_
 refine go [.N] (k := ?_)
 refine cv Tryz.call170 rfl rfl (FixedSZ_con (crcF (showOf u)) hcf) ?_
 refine go [.N] (k := ?_)
 refine qq (Qt.binOp rfl rfl (pbCat (by omega))) ?_
 refine go [.m] (k := ?_)
 refine qq (Qt.binOp rfl rfl (pbCat (by rw [ByteArray.size_append]; omega))) ?_
 refine go [.N,.a,.Z] (k := ?_)
 refine rt1 4 ?_
 rfl
set_option maxHeartbeats 4000000 in
set_option maxRecDepth 10000 in
theorem image_con (kind : ByteArray) (u : DUnix) (hk : kind.size ≤ 10) (hb : unixB u) (hU : unixOk u = true) : Con Tryz.prog 87 [.v (.string kind), .g [.v (iv u.Next), .v (iv u.Tick), .h base [], .h (base + 1) [], .h (base + 2) [], .h (base + 3) [], .h (base + 4) [], .h (base + 5) [], .h (base + 6) []]] [.rt base .ro (tr u.Progs), .rt (base + 1) .ro (tr u.Procs), .rt (base + 2) .ro (tr u.Opens), .rt (base + 3) .ro (tr u.Pipes), .rt (base + 4) .ro (tr u.Files), .rt (base + 5) .ro (tr u.Ready), .rt (base + 6) .ro (tr u.Out)] (fun y _ => y = .v (.string (imgS kind (showOf u)))) := by
 refine ob Tryz.func87 Tryz.ntmps87 ?_
 have hF := showF_of hU
 have hsz := showOf_size hF
 have hcf := crcF_bd (showOf u)
 have hfs := fix_size (crcF (showOf u))
 refine go [.R,.B,.N,.a,.Z,.R,.G] (k := ?_)
 refine cv Tryz.call172 rfl rfl (ShowUnixI_con u hb) ?_
 refine go [.N] (k := ?_)
 refine AWL.weak (Weak.slot (d := 7) (v' := .string (showOf u)) rfl (by rw [showU_t hU])) ?_
 refine go [.N,.a,.Z,.R,.m,.m,.N] (k := ?_)
 refine cv Tryz.call174 rfl rfl (CrcI_con (showOf u) (by omega)) ?_
 refine go [.N] (k := ?_)
 refine cv Tryz.call173 rfl rfl (FixedIZ_con (crcF (showOf u)) hcf) ?_
 refine go [.N] (k := ?_)
 refine qq (Qt.binOp rfl rfl (pbCat (by omega))) ?_
 refine go [.m] (k := ?_)
 refine qq (Qt.binOp rfl rfl (pbCat (by rw [ByteArray.size_append]; omega))) ?_
 refine go [.N,.a,.Z] (k := ?_)
 refine rt1 4 ?_
 rfl
set_option maxHeartbeats 4000000 in
set_option maxRecDepth 10000 in
theorem ImageAS_con (a : DArrays) (hw : Mk.wt a ≤ 1048576) : Con Tryz.prog 18 [.g [.v (iv a.Next), .v (iv a.Tick), .h base [], .h (base + 1) [], .h (base + 2) [], .h (base + 3) [], .h (base + 4) [], .h (base + 5) [], .h (base + 6) [], .v (.bool a.Ready.Used), .h (base + 7) [], .v (iv a.Ready.Head), .v (iv a.Ready.Len), .h (base + 8) []]] [.rt base .ro (tr a.Progs), .rt (base + 1) .ro (tr a.Slots), .rt (base + 2) .ro (tr a.Ram), .rt (base + 3) .ro (tr a.Map), .rt (base + 4) .ro (tr a.Opens), .rt (base + 5) .ro (tr a.Pipes), .rt (base + 6) .ro (tr a.Files), .rt (base + 7) .ro (tr a.Ready.Buf), .rt (base + 8) .ro (tr a.Out)] (fun y _ => y = .v (.string (imgA a))) := by
 refine ob Tryz.func18 Tryz.ntmps18 ?_
 refine go [.R,.B,.N,.a,.Z,.R2,.G] (k := ?_)
 refine cv Tryz.call16 rfl rfl (AOkS_con a hw) ?_
 refine go [.N,.n,.Z] (k := ?_)
 refine cd (fun c1 => ?_) fun c1 => ?_
 ·have k1 := c1
  try simp only [cnd] at c1
  have hok : aOk a = false := by simpa using k1
  refine go [.R,.a,.Z] (k := ?_)
  refine rt1 2 ?_
  rw [show imgA a = ByteArray.empty from if_neg (by rw [hok]; simp)]
  rfl
 have k1 := c1
 try simp only [cnd] at c1
 have hok : aOk a = true := by simpa using k1
 have hpt := aOk_parts hok
 have hS := shpA hpt.1
 refine go [.J,.R,.G,.N] (k := ?_)
 refine sp (Stp.callR rfl (by decide) Tryz.call34 rfl rfl (l12Abs_con a hS hw) (nodup_of rfl) rfl rfl) ?_
 refine go [.N] (k := ?_)
 refine cv Tryz.call86 rfl rfl (l20Image_con ⟨#[65]⟩ (absU a) (by decide) (showF_of hpt.2)) ?_
 refine go [.N,.a,.Z] (k := ?_)
 refine rt1 2 ?_
 rw [show imgA a = imgS ⟨#[65]⟩ (showOf (absU a)) from if_pos hok]
 rfl
set_option maxHeartbeats 4000000 in
set_option maxRecDepth 10000 in
theorem ImageAI_con (a : DArrays) (hw : Mk.wt a ≤ 1048576) : Con Tryz.prog 19 [.g [.v (iv a.Next), .v (iv a.Tick), .h base [], .h (base + 1) [], .h (base + 2) [], .h (base + 3) [], .h (base + 4) [], .h (base + 5) [], .h (base + 6) [], .v (.bool a.Ready.Used), .h (base + 7) [], .v (iv a.Ready.Head), .v (iv a.Ready.Len), .h (base + 8) []]] [.rt base .ro (tr a.Progs), .rt (base + 1) .ro (tr a.Slots), .rt (base + 2) .ro (tr a.Ram), .rt (base + 3) .ro (tr a.Map), .rt (base + 4) .ro (tr a.Opens), .rt (base + 5) .ro (tr a.Pipes), .rt (base + 6) .ro (tr a.Files), .rt (base + 7) .ro (tr a.Ready.Buf), .rt (base + 8) .ro (tr a.Out)] (fun y _ => y = .v (.string (imgA a))) := by
 refine ob Tryz.func19 Tryz.ntmps19 ?_
 refine go [.R,.B,.N,.a,.Z,.R2,.G] (k := ?_)
 refine cv Tryz.call17 rfl rfl (AOkI_con a hw) ?_
 refine go [.N,.n,.Z] (k := ?_)
 refine cd (fun c1 => ?_) fun c1 => ?_
 ·have k1 := c1
  try simp only [cnd] at c1
  have hok : aOk a = false := by simpa using k1
  refine go [.R,.a,.Z] (k := ?_)
  refine rt1 2 ?_
  rw [show imgA a = ByteArray.empty from if_neg (by rw [hok]; simp)]
  rfl
 have k1 := c1
 try simp only [cnd] at c1
 have hok : aOk a = true := by simpa using k1
 have hpt := aOk_parts hok
 have hS := shpA hpt.1
 refine go [.J,.R,.G,.N] (k := ?_)
 refine sp (Stp.callR rfl (by decide) Tryz.call10 rfl rfl (AbsAI_con a hw) (nodup_of rfl) rfl rfl) ?_
 refine go [.N] (k := ?_)
 refine cv Tryz.call87 rfl rfl (image_con ⟨#[65]⟩ (absA a) (by decide) (by rw [absA_t hpt.1]; exact unixB_abs hS) (by rw [absA_t hpt.1]; exact hpt.2)) ?_
 refine go [.N,.a,.Z] (k := ?_)
 refine rt1 2 ?_
 rw [show imgA a = imgS ⟨#[65]⟩ (showOf (absA a)) from by rw [absA_t hpt.1]; exact if_pos hok]
 rfl
end Go.Proofs.YtldefnpobjabpaaGreat.VM

