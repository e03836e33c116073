/- Contracts of functions of the program. No conditions beyond those that each states. -/
import Derived.Test.YtlploojfcmcckaaDoorCKB
import Derived.Shelf.Strconv.AtoiAll
set_option linter.all false
set_option maxHeartbeats 8000000
set_option maxRecDepth 10000
namespace Go.Proofs.YtlploojfcmcckaaDoor.VM
open Go Go.RowKit Go.Proofs
open Go.Shelf
def laysC172_ren : Go.Shelf.Ren := ⟨fun | 172 => 39 | 244 => 57 | 245 => 58 | 247 => 75 | 279 => 76 | 280 => 77 | 281 => 78 | 282 => 79 | 287 => 86 | 316 => 87 | 171 => 31 | 205 => 88 | 321 => 97 | 322 => 98 | 243 => 52 | 246 => 69 | 283 => 82 | 284 => 83 | 285 => 84 | 286 => 85 | 129 => 93 | 317 => 92 | 318 => 94 | 319 => 95 | 320 => 96 | 337 => 103 | 338 => 104 | n => n, fun | 9 => 9 | 3 => 3 | 75 => 60 | 76 => 61 | 4 => 4 | 5 => 5 | 167 => 87 | 37 => 34 | 0 => 0 | 85 => 88 | 2 => 2 | 168 => 90 | 53 => 95 | 175 => 100 | 46 => 68 | 210 => 103 | 127 => 114 | 145 => 117 | 143 => 115 | 21 => 21 | 171 => 94 | 173 => 98 | 212 => 109 | 51 => 110 | 20 => 20 | 213 => 111 | 232 => 121 | 233 => 122 | 80 => 129 | n => n, fun | 15 => 0 | 16 => 1 | 17 => 3 | 18 => 4 | 19 => 5 | n => n⟩
theorem laysC172 : Go.Proofs.LaysC.n172 Tryd.prog laysC172_ren := {
 mixed := by kernel_rfl
 f129 := Tryd.func93.trans (congrArg some (by kernel_rfl))
 f171 := Tryd.func31.trans (congrArg some (by kernel_rfl))
 f172 := Tryd.func39.trans (congrArg some (by kernel_rfl))
 f205 := Tryd.func88.trans (congrArg some (by kernel_rfl))
 f243 := Tryd.func52.trans (congrArg some (by kernel_rfl))
 f244 := Tryd.func57.trans (congrArg some (by kernel_rfl))
 f245 := Tryd.func58.trans (congrArg some (by kernel_rfl))
 f246 := Tryd.func69.trans (congrArg some (by kernel_rfl))
 f247 := Tryd.func75.trans (congrArg some (by kernel_rfl))
 f279 := Tryd.func76.trans (congrArg some (by kernel_rfl))
 f280 := Tryd.func77.trans (congrArg some (by kernel_rfl))
 f281 := Tryd.func78.trans (congrArg some (by kernel_rfl))
 f282 := Tryd.func79.trans (congrArg some (by kernel_rfl))
 f283 := Tryd.func82.trans (congrArg some (by kernel_rfl))
 f284 := Tryd.func83.trans (congrArg some (by kernel_rfl))
 f285 := Tryd.func84.trans (congrArg some (by kernel_rfl))
 f286 := Tryd.func85.trans (congrArg some (by kernel_rfl))
 f287 := Tryd.func86.trans (congrArg some (by kernel_rfl))
 f316 := Tryd.func87.trans (congrArg some (by kernel_rfl))
 f317 := Tryd.func92.trans (congrArg some (by kernel_rfl))
 f318 := Tryd.func94.trans (congrArg some (by kernel_rfl))
 f319 := Tryd.func95.trans (congrArg some (by kernel_rfl))
 f320 := Tryd.func96.trans (congrArg some (by kernel_rfl))
 f321 := Tryd.func97.trans (congrArg some (by kernel_rfl))
 f322 := Tryd.func98.trans (congrArg some (by kernel_rfl))
 f337 := Tryd.func103.trans (congrArg some (by kernel_rfl))
 f338 := Tryd.func104.trans (congrArg some (by kernel_rfl))
 t0 := Tryd.underlying0
 a0 := Tryd.isAgg0
 z0 := Tryd.sizeOf0
 v0 := Tryd.zeroValue0
 t2 := Tryd.underlying2
 a2 := Tryd.isAgg2
 z2 := Tryd.sizeOf2
 v2 := Tryd.zeroValue2
 t3 := Tryd.underlying3
 a3 := Tryd.isAgg3
 z3 := Tryd.sizeOf3
 v3 := Tryd.zeroValue3
 t4 := Tryd.underlying4
 a4 := Tryd.isAgg4
 z4 := Tryd.sizeOf4
 v4 := Tryd.zeroValue4
 t5 := Tryd.underlying5
 a5 := Tryd.isAgg5
 z5 := Tryd.sizeOf5
 v5 := Tryd.zeroValue5
 t9 := Tryd.underlying9
 a9 := Tryd.isAgg9
 z9 := Tryd.sizeOf9
 v9 := Tryd.zeroValue9
 t20 := Tryd.underlying20
 a20 := Tryd.isAgg20
 z20 := Tryd.sizeOf20
 v20 := Tryd.zeroValue20
 t21 := Tryd.underlying21
 a21 := Tryd.isAgg21
 z21 := Tryd.sizeOf21
 v21 := Tryd.zeroValue21
 t37 := Tryd.underlying34
 a37 := Tryd.isAgg34
 z37 := Tryd.sizeOf34
 v37 := Tryd.zeroValue34
 t46 := Tryd.underlying68
 a46 := Tryd.isAgg68
 z46 := Tryd.sizeOf68
 v46 := Tryd.zeroValue68
 t51 := Tryd.underlying110
 a51 := Tryd.isAgg110
 z51 := Tryd.sizeOf110
 v51 := Tryd.zeroValue110
 t53 := Tryd.underlying95
 a53 := Tryd.isAgg95
 z53 := Tryd.sizeOf95
 v53 := Tryd.zeroValue95
 t75 := Tryd.underlying60
 a75 := Tryd.isAgg60
 z75 := Tryd.sizeOf60
 v75 := Tryd.zeroValue60
 t76 := Tryd.underlying61
 a76 := Tryd.isAgg61
 z76 := Tryd.sizeOf61
 v76 := Tryd.zeroValue61
 t85 := Tryd.underlying88
 a85 := Tryd.isAgg88
 z85 := Tryd.sizeOf88
 v85 := Tryd.zeroValue88
 t127 := Tryd.underlying114
 a127 := Tryd.isAgg114
 z127 := Tryd.sizeOf114
 v127 := Tryd.zeroValue114
 t143 := Tryd.underlying115
 a143 := Tryd.isAgg115
 z143 := Tryd.sizeOf115
 v143 := Tryd.zeroValue115
 t145 := Tryd.underlying117
 a145 := Tryd.isAgg117
 z145 := Tryd.sizeOf117
 v145 := Tryd.zeroValue117
 t167 := Tryd.underlying87
 a167 := Tryd.isAgg87
 z167 := Tryd.sizeOf87
 v167 := Tryd.zeroValue87
 t168 := Tryd.underlying90
 a168 := Tryd.isAgg90
 z168 := Tryd.sizeOf90
 v168 := Tryd.zeroValue90
 t171 := Tryd.underlying94
 a171 := Tryd.isAgg94
 z171 := Tryd.sizeOf94
 v171 := Tryd.zeroValue94
 t173 := Tryd.underlying98
 a173 := Tryd.isAgg98
 z173 := Tryd.sizeOf98
 v173 := Tryd.zeroValue98
 t175 := Tryd.underlying100
 a175 := Tryd.isAgg100
 z175 := Tryd.sizeOf100
 v175 := Tryd.zeroValue100
 t210 := Tryd.underlying103
 a210 := Tryd.isAgg103
 z210 := Tryd.sizeOf103
 v210 := Tryd.zeroValue103
 t212 := Tryd.underlying109
 a212 := Tryd.isAgg109
 z212 := Tryd.sizeOf109
 v212 := Tryd.zeroValue109
 t213 := Tryd.underlying111
 a213 := Tryd.isAgg111
 z213 := Tryd.sizeOf111
 t232 := Tryd.underlying121
 a232 := Tryd.isAgg121
 z232 := Tryd.sizeOf121
 v232 := Tryd.zeroValue121
 t233 := Tryd.underlying122
 a233 := Tryd.isAgg122
 z233 := Tryd.sizeOf122
 v233 := Tryd.zeroValue122
 g15 := by kernel_rfl
 g16 := by kernel_rfl
 g17 := by kernel_rfl
 g18 := by kernel_rfl
 g19 := by kernel_rfl
 t80 := Tryd.underlying129
 a80 := Tryd.isAgg129
 z80 := Tryd.sizeOf129
 v80 := Tryd.zeroValue129
 i0 := by kernel_rfl
 i2 := by kernel_rfl
 i3 := by kernel_rfl
 i4 := by kernel_rfl
 i5 := by kernel_rfl
 i9 := by kernel_rfl
 i20 := by kernel_rfl
 i21 := by kernel_rfl
 i37 := by kernel_rfl
 i46 := by kernel_rfl
 i51 := by kernel_rfl
 i53 := by kernel_rfl
 i75 := by kernel_rfl
 i76 := by kernel_rfl
 i80 := by kernel_rfl
 i85 := by kernel_rfl
 i127 := by kernel_rfl
 i143 := by kernel_rfl
 i145 := by kernel_rfl
 i167 := by kernel_rfl
 i168 := by kernel_rfl
 i171 := by kernel_rfl
 i173 := by kernel_rfl
 i175 := by kernel_rfl
 i210 := by kernel_rfl
 i212 := by kernel_rfl
 i232 := by kernel_rfl
 i233 := by kernel_rfl
 m15 := by kernel_rfl
 m16 := by kernel_rfl
 m17 := by kernel_rfl
 m18 := by kernel_rfl
 m19 := by kernel_rfl
 c0 := by kernel_rfl
 c2 := by kernel_rfl
 c3 := by kernel_rfl
 c4 := by kernel_rfl
 c5 := by kernel_rfl
 c9 := by kernel_rfl
 c20 := by kernel_rfl
 c21 := by kernel_rfl
 c37 := by kernel_rfl
 c46 := by kernel_rfl
 c51 := by kernel_rfl
 c53 := by kernel_rfl
 c75 := by kernel_rfl
 c76 := by kernel_rfl
 c80 := by kernel_rfl
 c85 := by kernel_rfl
 c127 := by kernel_rfl
 c143 := by kernel_rfl
 c145 := by kernel_rfl
 c167 := by kernel_rfl
 c168 := by kernel_rfl
 c171 := by kernel_rfl
 c173 := by kernel_rfl
 c175 := by kernel_rfl
 c210 := by kernel_rfl
 c212 := by kernel_rfl
 c213 := by kernel_rfl
 c232 := by kernel_rfl
 c233 := by kernel_rfl }
def atC (s : ByteArray) (m : Int × Value) : Prop := errV m.2 ∧ (isErr m.2 = false → Lib.atoiAll s.data.toList = .ok m.1) ∧ (isErr m.2 = true → ∀ v, Lib.atoiAll s.data.toList ≠ .ok v)
theorem atoi_con (s : ByteArray) (hs : s.size ≤ 281474976710656) : Con Tryd.prog 39 [.v (.string s)] [] (fun x _ => ∃ m : Int × Value, atC s m ∧ x = .t ([iv m.1, m.2].map .v)) := by
 intro w vs H G ht _ hr hv
 match vs, hv with
 | [v], ⟨h1, _⟩ =>
 obtain rfl : v = .string s := h1
 have no : ∀ {β : Prop} {e : E}, e ∈ ([] : List E) → β := fun h => by cases h
 have fin : ∀ (e : Ending) (w' : World) (n : Int) (ev : Value), e = .returned (.tuple #[iv n, ev]) → Below w.heap.size w w' → atC s (n, ev) → ∃ v x L H' G' val, e = .returned v ∧ (∃ m : Int × Value, atC s m ∧ x = .t ([iv m.1, m.2].map .v)) ∧ Rp L val H' G' w' ∧ VR (rts L) H' w' x v ∧
   Chg (fun a o => ∃ id m t, rts [] id m t ∧ m ≠ .ro ∧ G id a o) w w' ∧
   (∀ id m t, rts L id m t → m ≠ .ro → ∀ a o, G' id a o → (∃ id m t, rts [] id m t ∧ m ≠ .ro ∧ G id a o) ∨ w.heap.size ≤ a) ∧
   ∀ id m t, base ≤ id → rts L id m t → H' id = H id := fun e w' n ev he hb hc =>
  ⟨_, .t ([iv n, ev].map .v), [], H, G, fun _ => undef, he, ⟨(n, ev), hc, rfl⟩, ⟨fun _ _ _ _ _ h => no h, fun _ _ _ h => no h, fun _ _ h => no h, fun _ _ h => no h, fun _ _ h => no h, fun _ _ _ _ _ _ h => no h, fun _ _ h => no h, fun _ _ _ h => no h⟩, ⟨[iv n, ev], rfl, rfl, rfl, trivial⟩, Chg.of_below hb, fun _ _ _ h => no h, fun _ _ _ _ h => no h⟩
 cases h : Lib.atoiAll s.data.toList
 ·rename_i v
  refine (Any.strconv_Atoi_ok laysC172 s (by omega) v h w).mono fun e w' ⟨he, hw⟩ => fin e w' v .nilIface he ?_ ⟨.inl rfl, fun _ => h, fun h' => by cases h'⟩
  rcases hw with rfl | ⟨t, rfl⟩
  ·exact Below.refl _ _
  ·exact Lib.bytesWorld_below _ _ _
 ·skip
  have hg : Tryd.prog.globalNamed "strconv.ErrSyntax" = some 0 := by kernel_rfl
  obtain ⟨cs, h1, ev, rfl, hev⟩ := ht _ (List.mem_cons_of_mem _ (List.mem_cons_self ..)) 0 hg
  have hc := World.var?_cell hg h1 0
  refine (Any.strconv_Atoi_syntax laysC172 s hs h ev w (show w.cell? ⟨0, 0, none⟩ = some ev by simpa using hc) hev).mono fun e w' ⟨N, he, _, _, hb⟩ => fin e w' 0 _ he hb ⟨.inr ⟨_, _, rfl⟩, fun h' => (by cases h'), fun _ v h' => by rw [h] at h'; cases h'⟩
 ·skip
  have hg : Tryd.prog.globalNamed "strconv.ErrRange" = some 1 := by kernel_rfl
  obtain ⟨cs, h1, ev, rfl, hev⟩ := ht _ (List.mem_cons_of_mem _ (List.mem_cons_of_mem _ (List.mem_cons_self ..))) 1 hg
  have hc := World.var?_cell hg h1 0
  refine (Any.strconv_Atoi_range laysC172 s hs h ev w (show w.cell? ⟨1, 0, none⟩ = some ev by simpa using hc) hev).mono fun e w' ⟨N, he, _, _, hb⟩ => fin e w' _ _ he hb ⟨.inr ⟨_, _, rfl⟩, fun h' => (by cases h'), fun _ v h' => by rw [h] at h'; cases h'⟩
end Go.Proofs.YtlploojfcmcckaaDoor.VM
