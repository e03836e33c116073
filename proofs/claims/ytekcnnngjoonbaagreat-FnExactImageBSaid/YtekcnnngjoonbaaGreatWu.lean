/- Contracts. No conditions. -/
import Derived.Shelf.Slices.In.SortNone
import Derived.Shelf.Sort.Plain
import Derived.Test.YtekcnnngjoonbaaGreatWe
import Derived.Test.YtekcnnngjoonbaaGreatWp
import Derived.Test.YtekcnnngjoonbaaGreatWs
import Derived.Test.YtekcnnngjoonbaaGreatWt
set_option linter.all false
set_option maxHeartbeats 8000000
set_option maxRecDepth 10000
namespace Go.Proofs.YtekcnnngjoonbaaGreat.VM
open List Nat
open Go Go.RowKit Go.Proofs Go.Proofs.Tryz
open Go.Shelf
def uD:Go.Shelf.Ren:=⟨λ |189=>205|125=>237|257=>236|128=>258|129=>259|294=>249|295=>250|296=>251|297=>252|298=>253|299=>254|216=>255|300=>256|301=>257|328=>262|329=>263|330=>264|331=>265|332=>266|215=>267|343=>270|n=>n,λ |28=>24|3=>3|46=>205|0=>0|51=>250|53=>252|4=>4|183=>242|182=>241|131=>247|5=>5|9=>9|218=>254|222=>258|228=>263|229=>264|n=>n,λ |n=>n⟩
theorem wW:Go.Proofs.Lays.n189 prog uD:={
 mixed:=by kernel_rfl
 f125:=func237.trans (congrArg some (by kernel_rfl))
 f128:=func258.trans (congrArg some (by kernel_rfl))
 f129:=func259.trans (congrArg some (by kernel_rfl))
 f189:=func205.trans (congrArg some (by kernel_rfl))
 f215:=func267.trans (congrArg some (by kernel_rfl))
 f216:=func255.trans (congrArg some (by kernel_rfl))
 f257:=func236.trans (congrArg some (by kernel_rfl))
 f294:=func249.trans (congrArg some (by kernel_rfl))
 f295:=func250.trans (congrArg some (by kernel_rfl))
 f296:=func251.trans (congrArg some (by kernel_rfl))
 f297:=func252.trans (congrArg some (by kernel_rfl))
 f298:=func253.trans (congrArg some (by kernel_rfl))
 f299:=func254.trans (congrArg some (by kernel_rfl))
 f300:=func256.trans (congrArg some (by kernel_rfl))
 f301:=func257.trans (congrArg some (by kernel_rfl))
 f328:=func262.trans (congrArg some (by kernel_rfl))
 f329:=func263.trans (congrArg some (by kernel_rfl))
 f330:=func264.trans (congrArg some (by kernel_rfl))
 f331:=func265.trans (congrArg some (by kernel_rfl))
 f332:=func266.trans (congrArg some (by kernel_rfl))
 f343:=func270.trans (congrArg some (by kernel_rfl))
 t0:=underlying0
 a0:=isAgg0
 z0:=sizeOf0
 v0:=zeroValue0
 t3:=underlying3
 a3:=isAgg3
 z3:=sizeOf3
 v3:=zeroValue3
 t4:=underlying4
 a4:=isAgg4
 z4:=sizeOf4
 v4:=zeroValue4
 t5:=underlying5
 a5:=isAgg5
 z5:=sizeOf5
 v5:=zeroValue5
 t9:=underlying9
 a9:=isAgg9
 z9:=sizeOf9
 v9:=zeroValue9
 t28:=underlying24
 a28:=isAgg24
 z28:=sizeOf24
 v28:=zeroValue24
 t46:=underlying205
 a46:=isAgg205
 z46:=sizeOf205
 v46:=zeroValue205
 t51:=underlying250
 a51:=isAgg250
 z51:=sizeOf250
 v51:=zeroValue250
 t53:=underlying252
 a53:=isAgg252
 z53:=sizeOf252
 v53:=zeroValue252
 t131:=underlying247
 a131:=isAgg247
 z131:=sizeOf247
 v131:=zeroValue247
 t182:=underlying241
 a182:=isAgg241
 z182:=sizeOf241
 v182:=zeroValue241
 t183:=underlying242
 a183:=isAgg242
 z183:=sizeOf242
 v183:=zeroValue242
 t218:=underlying254
 a218:=isAgg254
 z218:=sizeOf254
 v218:=zeroValue254
 t222:=underlying258
 a222:=isAgg258
 z222:=sizeOf258
 v222:=zeroValue258
 t228:=underlying263
 a228:=isAgg263
 z228:=sizeOf263
 v228:=zeroValue263
 t229:=underlying264
 a229:=isAgg264
 z229:=sizeOf264
 v229:=zeroValue264 }
theorem xQ(l:List Int)(hlen:l.length<4611686018427387904):a_ prog 205 [.h aa []] [.rt aa .row (tr l)] (ch (.t []) [] [(aa,tr (l.mergeSort λx y=>decide (x≤y)))]):=
 tv (S:=λl=>l.mergeSort λx y=>decide (x≤y)) (λl=>length_mergeSort _) (λblk off cap zs w hH hb hs=>Any.slices_Sort_int wW blk off cap zs w hH hb hs) (λp cap w=>Any.slices_Sort_int_none wW p cap w) l hlen
open Go Go.RowKit Go.Proofs Go.Proofs.Tryz
structure wB(u:aX) where
 k:Nat
 le:k≤u.ag.length
 acc:List Int
 eq:acc=cL (u.ag.take k)
theorem wB.len{u:aX}(i:wB u):i.acc.length≤i.k:=by rw[i.eq,o6 i.le];exact mQ _ _
theorem wB.t{u:aX}(i:wB u)(hk:i.k<u.ag.length)(hs:(u.ag.getD i.k En.ab).State=1):i.acc++[(u.ag.getD i.k En.ab).ey]=cL (u.ag.take (i.k+1)):=by rw[mF hk,if_pos hs,←i.eq]
theorem wB.f{u:aX}(i:wB u)(hk:i.k<u.ag.length)(hs:(u.ag.getD i.k En.ab).State≠1):i.acc=cL (u.ag.take (i.k+1)):=by rw[mF hk,if_neg hs,←i.eq]
theorem v8(l:List Int)(hs:l.length≤4194304):a_ prog 39 [.h aa []] [.rt aa .ro (tr l)] (j6 (.h 0 []) [(0,.row,tr l)]):=by
 refine ob func39 ntmps39 ?_;refine go [.R,.a,.Z,.R2,.m] ?_;refine aB.nS rfl rfl rfl (by decide) rfl rfl rfl kb ?_;intro b1 hb1;refine go [.Z] ?_;refine cd (λc2=>?_) λc2=>?_
 ·try simp only[ah]at c2
  refine go [.R,.a,.Z] ?_;have hl0:l=[]:=eq_nil_of_length_eq_zero (hb1 c2);subst hl0;refine AW.lm 2 900 1 (by omega) rfl rfl (by decide) ?_;refine AW.bB 900 (tr ([]:List Int)) rfl bK ?_;refine aQ 2 ?_;refine⟨λ_=>900,rfl,aj rfl,?_⟩;intro r hr;cases List.mem_singleton.1 hr;exact⟨by simp,aq rfl⟩
 try simp only[ah]at c2
 refine go [.J,.R,.S,.N,.m] ?_;refine sp (by first|exact aE.bN rfl (by decide) (by decide) rfl rfl (by omega)|exact aE.bc rfl (by decide) (by decide) rfl rfl rfl (by omega)) ?_;refine go [.N,.a,.Z] ?_;refine AW.bB 7 (tr l) rfl (dA (α:=Int)) ?_;refine aQ 2 ?_;refine⟨λ_=>7,rfl,aj rfl,?_⟩;intro r hr;cases List.mem_singleton.1 hr;exact⟨by simp,aq rfl⟩
theorem vq(a b:List Int):a_ prog 206 [.h aa [],.h (aa+1) []] [.rt aa .ro (tr a),.rt (aa+1) .ro (tr b)] (λy _=>y= .v (.bool (decide (a=b)))):=by
 refine ob func206 ntmps206 ?_;refine AW.len (aa) [] rfl (by simp[bT]) rfl (λhl=>?_);refine AW.len (aa+1) [] rfl (by simp[bT]) rfl (λhl2=>?_);refine go [.R,.a,.Z,.R2,.m,.h,.N,.m,.h,.b,.Z] ?_;refine cd (λc1=>?_) λc1=>?_
 ·try simp only[ah]at c1
  refine go [.R,.a,.Z] ?_;refine aQ 4 ?_;simp only[bi,ax,reduceIte,Nat.reduceEqDiff];rw[decide_eq_false (show a≠b from fa (by omega))]
 try simp only[ah]at c1
 refine jd (dq ?_);refine go [.m,.N,.h,.m,.Z] ?_;refine AW.block ?_;refine AW.aL (λi:iJ a b=>[.sl 13 (.v (iv i.k)),.sl 12 (.v (iv a.length)),.sl 0 (.h aa []),.sl 1 (.h (aa+1) []),.rt aa .ro (tr a),.rt (aa+1) .ro (tr b)]) (λi=>a.length-i.k) ⟨0,zero_le _,rfl⟩ (ws) ?_;intro i;have hle:=i.le;refine go [.R,.b,.Z] ?_;refine AW.seq ?_;refine cd (λc2=>?_) λc2=>?_
 ·try simp only[ah]at c2
  refine jd (AW.seq (AW.block (sr ?_)));refine go [.m,.N,.a,.Z] ?_;refine AW.seq ?_;refine go [.D [0,1,2,3,4,5,6,7,8],.t 0,.m,.t 1,.m,.N,.t 2,.i,.t 3,.l,.t 4,.m,.N,.t 5,.m,.t 6,.i,.t 7,.l,.N,.t 8,.b,.Z] ?_;refine cd (λc3=>?_) λc3=>?_
  ·try simp only[ah]at c3
   refine go [.R,.a,.Z] ?_;refine aQ 4 ?_;simp only[bi,ax,reduceIte,Nat.reduceEqDiff];rw[decide_eq_false (show a≠b from i.stop En.ab (by simpa using c3))]
  try simp only[ah]at c3
  refine go [.J,.R1,.b,.N,.m,.Z] ?_;refine⟨⟨i.k+1,by omega,i.next En.ab (by omega) (by omega) (by simpa using c3)⟩,ws,?_⟩;dsimp only;omega
 try simp only[ah]at c2
 refine AW.exit ?_;dsimp only[aD,au,reduceIte];refine go [.R,.a,.Z] ?_;refine aQ 4 ?_;simp only[bi,ax,reduceIte,Nat.reduceEqDiff];rw[decide_eq_true (show a=b from i.full (by omega) (by omega))]
theorem rW(u:aX)(hb:il u):a_ prog 154 [.g [.v (iv u.Next),.v (iv u.bp),.h aa [],.h (aa+1) [],.h (aa+2) [],.h (aa+3) [],.h (aa+4) [],.h (aa+5) [],.h (aa+6) []]] [.rt aa .ro (tr u.aP),.rt (aa+1) .ro (tr u.ag),.rt (aa+2) .ro (tr u.ao),.rt (aa+3) .ro (tr u.ak),.rt (aa+4) .ro (tr u.ay),.rt (aa+5) .ro (tr u.aN),.rt (aa+6) .ro (tr u.Out)] (λy _=>y= .v (.bool (decide (AK u.aN=cL u.ag)))):=by
 refine ob func154 ntmps154 ?_;refine AW.len (aa+1) [] rfl (by simp[bT]) rfl (λhl=>?_);have hrb:=hb.ready;have hpb:=hb.procs;refine go [.R,.B,.N,.a,.Z,.R,.f,.l,.N] ?_;refine sp (aE.bP rfl (by decide) call39 rfl rfl (v8 _ (by omega)) (aj rfl) rfl rfl) ?_;refine go [.N,.a,.Z,.R,.m] ?_;refine sp (aE.bW rfl (by decide) call205 rfl (xQ _ (by omega)) rfl rfl rfl (aj rfl) rfl rfl) ?_;refine go [.Z,.R,.S,.N,.a,.Z,.R2,.f,.l,.N,.h,.m,.Z] ?_;refine AW.block ?_;refine AW.aL (λi:wB u=>[.sl 16 (.v (iv i.k)),.sl 4 (.h 12 []),.sl 3 (.h 9 []),.sl 14 (.h (aa+1) []),.sl 15 (.v (iv u.ag.length)),.rt aa .ro (tr u.aP),.rt (aa+1) .ro (tr u.ag),.rt (aa+2) .ro (tr u.ao),.rt (aa+3) .ro (tr u.ak),.rt (aa+4) .ro (tr u.ay),.rt (aa+5) .ro (tr u.aN),.rt (aa+6) .ro (tr u.Out),.rt 12 .row (tr i.acc),.rt 9 .row (tr (AK u.aN))]) (λi=>u.ag.length-i.k) ⟨0,zero_le _,[],by simp[cL]⟩ (ar.bb ⟨rfl,rfl,rfl,rfl,rfl,Rf rfl,Rf rfl,Rf rfl,Rf rfl,Rf rfl,Rf rfl,Rf rfl,⟨_,rfl,bK⟩,Rf rfl,trivial⟩ rfl rfl) ?_;intro i;have hle:=i.le;have hacc:=i.len;refine go [.R,.b,.Z] ?_;refine AW.seq ?_;refine cd (λc1=>?_) λc1=>?_
 ·try simp only[ah]at c1
  refine jd (AW.seq (AW.block (sr ?_)));refine go [.i,.N,.G,.A,.N,.s,.Z,.R,.f,.N,.l,.b,.Z] ?_;refine cd (λc2=>?_) λc2=>?_
  ·try simp only[ah]at c2
   refine go [.R1,.m,.N,.f,.l,.S,.N] ?_;refine sp (by first|exact aE.bN rfl (by decide) (by decide) rfl rfl (by omega)|exact aE.bc rfl (by decide) (by decide) rfl rfl rfl (by omega)) ?_;refine go [.N,.a,.Z,.R1,.b,.m,.Z] ?_;refine⟨⟨i.k+1,by omega,_,i.t (by omega) (by simpa using c2)⟩,ar.trans (ar.ke (a:=27) (b:=12) rfl (by decide) (by decide)) (ar.bb ⟨ew,rfl,rfl,rfl,rfl,Rf rfl,Rf rfl,Rf rfl,Rf rfl,Rf rfl,Rf rfl,Rf rfl,⟨_,rfl,wY (α:=Int) (a:=(u.ag.getD i.k En.ab).ey) (λc hc=>match c,hc with|0,_=>rfl|c+1,hc=>absurd hc (by simp only[En.n];omega))⟩,Rf rfl,trivial⟩ rfl rfl),?_⟩;dsimp only;omega
  try simp only[ah]at c2
  refine go [.J,.R1,.b,.N,.m,.Z] ?_;refine⟨⟨i.k+1,by omega,_,i.f (by omega) (by simpa using c2)⟩,ws,?_⟩;dsimp only;omega
 try simp only[ah]at c1
 refine AW.exit ?_;dsimp only[aD,au,reduceIte];refine go [.R,.m,.m,.N] ?_;refine cv call206 rfl rfl (vq _ _) ?_;refine go [.N,.a,.Z] ?_;refine aQ 2 ?_;simp only[bi,ax,reduceIte,Nat.reduceEqDiff];rw[show i.acc=cL u.ag from by rw[i.eq,take_of_length_le (by omega)]]
open Go Go.RowKit Go.Proofs Go.Proofs.Tryz
theorem ux(p:List cU):a_ prog 147 [.h aa []] [.rt aa .ro (tr p)] (λy _=>y= .v (.bool (!(et p)))):=by
 refine ob func147 ntmps147 ?_;refine go [.R,.a,.Z,.R,.m] ?_;refine cv call148 rfl rfl (nd _) ?_;refine go [.N,.n,.a,.Z] ?_;refine aQ 2 ?_;rfl
theorem zc{fid:FuncId}{p:(List cU)→Bool}(hE:lL prog fid)(hp:∀x:List cU,a_ prog fid [.h aa []] [.rt aa .ro (tr x)] (λy _=>y= .v (.bool (p x))))(l:List (List cU)):a_ prog 189 [.h aa [],.f fid []] [.rt aa .ro (tr l)] (λy _=>y= .v (iv (fq p l))):=by
 refine ob func189 ntmps189 ?_;refine AW.len aa [] rfl (by simp[bT]) rfl (λhl=>?_);refine go [.R,.a,.Z,.R2,.m,.h,.N,.m,.Z] ?_;refine AW.block ?_;refine AW.aL (λi:fo p l=>[.sl 8 (.v (iv i.k)),.sl 7 (.v (iv l.length)),.sl 0 (.h aa []),.sl 1 (.f fid []),.rt aa .ro (tr l)]) (λi=>l.length-i.k) ⟨0,zero_le _,rfl⟩ (ws) ?_;intro i;have hle:=i.le;refine go [.R,.b,.Z] ?_;refine AW.seq ?_;refine cd (λc1=>?_) λc1=>?_
 ·try simp only[ah]at c1
  refine jd (AW.seq (AW.block (sr ?_)));refine go [.m,.N,.a,.Z,.R,.m,.m,.N,.m,.i,.l,.N] ?_;refine cv hE rfl rfl (hp (l.getD i.k En.ab)) ?_;refine go [.Z] ?_;refine cd (λc2=>?_) λc2=>?_
  ·try simp only[ah]at c2
   refine go [.R,.m,.N,.a,.Z] ?_;refine aQ 4 ?_;rw[cZ i En.ab (by omega) c2];rfl
  try simp only[ah]at c2
  refine go [.J,.R1,.b,.m,.Z] ?_;refine⟨⟨i.k+1,by omega,i.next En.ab (by omega) c2⟩,ws,?_⟩;show l.length-(i.k+1)<l.length-i.k;omega
 try simp only[ah]at c1
 refine AW.exit ?_;dsimp only[aD,au,reduceIte];refine go [.R,.a,.Z] ?_;refine aQ 4 ?_;rw[cC i (by omega)];rfl
theorem xO{fid:FuncId}{p:(List cU)→Bool}(hE:lL prog fid)(hp:∀x:List cU,a_ prog fid [.h aa []] [.rt aa .ro (tr x)] (λy _=>y= .v (.bool (p x))))(l:List (List cU)):a_ prog 146 [.h aa [],.f fid []] [.rt aa .ro (tr l)] (λy _=>y= .v (.bool (l.any p))):=by
 refine ob func146 ntmps146 ?_;refine go [.R,.a,.Z,.R,.m,.m,.N] ?_;refine cv call189 rfl rfl (zc hE hp _) ?_;refine go [.N,.b,.a,.Z] ?_;refine aQ 4 ?_;rw[←gk];rfl
theorem Cq(l:List (List cU)):(l.any λx=> !(et x))= !(l.all et):=by rw[Bool.eq_iff_iff];simp
theorem nq(u:aX)(hb:il u):a_ prog 81 [.g [.v (iv u.Next),.v (iv u.bp),.h aa [],.h (aa+1) [],.h (aa+2) [],.h (aa+3) [],.h (aa+4) [],.h (aa+5) [],.h (aa+6) []]] [.rt aa .ro (tr u.aP),.rt (aa+1) .ro (tr u.ag),.rt (aa+2) .ro (tr u.ao),.rt (aa+3) .ro (tr u.ak),.rt (aa+4) .ro (tr u.ay),.rt (aa+5) .ro (tr u.aN),.rt (aa+6) .ro (tr u.Out)] (λy _=>y= .v (.bool (cy u))):=by
 refine ob func81 ntmps81 ?_;refine AW.len (aa+1) [] rfl (by simp[bT]) rfl (λhl1=>?_);refine AW.len (aa+2) [] rfl (by simp[bT]) rfl (λhl2=>?_);have hap:=Cq u.aP;have hmb:=hb.mem;refine go [.R,.B,.N,.a,.Z,.R2,.f,.l,.N] ?_;refine cv call144 rfl rfl (de _ _ _) ?_;refine go [.N,.n,.m] ?_;apply aB.cut 4
 ·intro Kg1;refine aB.bq 11 rfl (λg1=>?_) (λg1=>?_)
  ·refine go [.f,.N,.l] ?_;refine aB.step rfl (nF g1) (aE.aC rfl (by decide) call144 rfl rfl (de _ _ _)) ?_;refine go [.N,.n] ?_;exact bV 15 [12,13,14,15] (bU g1 _ undef) Kg1
  ·refine go [.x,.x,.x,.x] ?_;exact bX 15 [12,13,14,15] (bY g1 undef _) Kg1
 refine qq (Qt.br rfl rfl rfl) ?_;refine go [.m,.N] ?_;apply aB.cut 5
 ·intro Kg2;refine aB.bq 17 rfl (λg2=>?_) (λg2=>?_)
  ·refine go [.f,.l,.h,.N] ?_;refine aB.step rfl (nF g2) (aE.aC rfl (by decide) call144 rfl rfl (de _ _ _)) ?_;refine go [.N,.n] ?_;exact bV 22 [18,19,20,21,22] (bU g2 _ undef) Kg2
  ·refine go [.x,.x,.x,.x,.N,.x] ?_;exact bX 22 [18,19,20,21,22] (bY g2 undef _) Kg2
 refine qq (Qt.br rfl rfl rfl) ?_;refine go [.m,.N] ?_;apply aB.cut 4
 ·intro Kg3;refine aB.bq 24 rfl (λg3=>?_) (λg3=>?_)
  ·refine go [.f,.l,.h,.N,.b] ?_;exact bV 28 [25,26,27,28] (bU g3 _ undef) Kg3
  ·refine go [.x,.x,.x,.x] ?_;exact bX 28 [25,26,27,28] (bY g3 undef _) Kg3
 refine qq (Qt.br rfl rfl rfl) ?_;refine go [.m,.N] ?_;apply aB.cut 4
 ·intro Kg4;refine aB.bq 30 rfl (λg4=>?_) (λg4=>?_)
  ·refine go [.f,.l] ?_;refine aB.step rfl (nF g4) (aE.aC rfl (by decide) call145 rfl rfl (cg _)) ?_;refine go [.N,.n] ?_;exact bV 34 [31,32,33,34] (bU g4 _ undef) Kg4
  ·refine go [.x,.x,.x,.x] ?_;exact bX 34 [31,32,33,34] (bY g4 undef _) Kg4
 refine qq (Qt.br rfl rfl rfl) ?_;refine go [.Z] ?_;refine cd (λc5=>?_) λc5=>?_
 ·try simp only[ah]at c5
  refine go [.R,.a,.Z] ?_;refine aQ 2 ?_;refine rb ?_;simp only[cy,dR,df,b8,aS];grind only
 try simp only[ah]at c5
 refine jd (dq ?_);refine go [.f,.N,.l] ?_;refine cv call146 rfl rfl (xO call147 (λx=>ux x) u.aP) ?_;refine go [.N,.m] ?_;apply aB.cut 4
 ·intro Kg6;refine aB.bq 39 rfl (λg6=>?_) (λg6=>?_)
  ·refine go [.f,.l,.N,.h,.b] ?_;exact bV 43 [40,41,42,43] (bU g6 _ undef) Kg6
  ·refine go [.x,.x,.x,.x] ?_;exact bX 43 [40,41,42,43] (bY g6 undef _) Kg6
 refine qq (Qt.br rfl rfl rfl) ?_;refine go [.N,.m] ?_;apply aB.cut 4
 ·intro Kg7;refine aB.bq 45 rfl (λg7=>?_) (λg7=>?_)
  ·refine go [.f,.l,.N,.h,.b] ?_;exact bV 49 [46,47,48,49] (bU g7 _ undef) Kg7
  ·refine go [.x,.x,.x,.x] ?_;exact bX 49 [46,47,48,49] (bY g7 undef _) Kg7
 refine qq (Qt.br rfl rfl rfl) ?_;refine go [.Z] ?_;refine cd (λc8=>?_) λc8=>?_
 ·try simp only[ah]at c8
  refine go [.R,.a,.Z] ?_;refine aQ 2 ?_;refine rb ?_;simp only[cy,dR,df,b8,aS];grind only
 try simp only[ah]at c8
 refine jd (dq ?_);refine go [.f,.N,.l,.h,.m,.Z] ?_;refine AW.block ?_;refine AW.aL (λi:q_ (cF u) u.ag.length=>[.sl 54 (.v (iv i.k)),.rt 1 .box (T.s 9 1 λk c=>([(T.v (iv u.Next),none),(T.v (iv u.bp),none),(T.j,none),(T.j,none),(T.j,none),(T.j,none),(T.j,none),(T.j,none),(T.j,none)].getD (k*9+c) (T.j,none)).fst),.al 1 2 (.h aa []),.al 1 3 (.h (aa+1) []),.al 1 4 (.h (aa+2) []),.al 1 5 (.h (aa+3) []),.al 1 6 (.h (aa+4) []),.al 1 7 (.h (aa+5) []),.al 1 8 (.h (aa+6) []),.rt aa .ro (tr u.aP),.rt (aa+1) .ro (tr u.ag),.rt (aa+2) .ro (tr u.ao),.rt (aa+3) .ro (tr u.ak),.rt (aa+4) .ro (tr u.ay),.rt (aa+5) .ro (tr u.aN),.rt (aa+6) .ro (tr u.Out),.sl 1 (.p 1 [] 9 0 0),.sl 52 (.h (aa+1) []),.sl 53 (.v (iv u.ag.length))]) (λi=>u.ag.length-i.k) ⟨0,zero_le _,λ_ h=>absurd h (not_lt_zero _)⟩ (ws) ?_;intro i;have hle:=i.le;have hTi:((i.k:Int)-1).toNat=i.k-1:=by omega
 refine go [.R,.b,.Z] ?_;refine AW.seq ?_;refine cd (λc9=>?_) λc9=>?_
 ·try simp only[ah]at c9
  refine jd (AW.seq (AW.block (sr ?_)));refine go [.m,.N,.i,.G,.A,.N,.a,.s,.Z] ?_;refine AW.seq ?_;refine go [.D [0,1,2,3,4,5,6,7,8,9,10,11,12,13,14,15,16,18,19],.t 0,.m,.N,.t 1,.b,.t 2,.m] ?_;refine aO.split 61 rfl (λg10=>?_) (λg10=>?_)
  ·refine go [.t 3,.f,.N,.t 4,.l,.t 5,.m,.t 6,.b,.N,.t 7,.i,.t 8,.f,.t 9,.l,.N,.t 10,.f,.t 11,.l,.t 12,.b,.N] ?_;refine tk 13 rfl (Qt.bj rfl g10) ?_;refine go [.t 14,.m] ?_;refine aO.split 73 rfl (λg11=>?_) (λg11=>?_)
   ·refine go [.t 15,.x,.N,.t 16,.x,.o 17 [],.x,.N,.t 18,.x] ?_;refine tk 19 rfl (Qt.bj rfl g11) ?_;refine go [.Z] ?_;refine cd (λc12=>?_) λc12=>?_
    ·try simp only[ah]at c12
     have hS:=i.stop (by omega) (show(cF u) i.k=false by simp only[cF,aI,eE];grind only);refine go [.R,.a,.Z] ?_;refine aQ 2 ?_;refine rb ?_;simp only[cy,dR,df,b8,aS];grind only
    try simp only[ah]at c12
    refine go [.J,.R1,.b,.N,.m,.Z] ?_;refine⟨⟨i.k+1,by omega,i.next (show(cF u) i.k=true by simp only[cF,aI,eE];grind only)⟩,ws,?_⟩;show u.ag.length-(i.k+1)<u.ag.length-i.k;omega
   refine go [.t 15,.G,.t 16,.G,.N] ?_;refine a1 17 [] [16,15,14,13,2,12,1,11,9,0,10,8,7,6,4,5,3] rfl (nF g11) (aE.aC rfl (by decide) call149 rfl rfl (po u _ (by omega) (by omega) (by omega))) ?_;refine go [.N,.t 18,.n] ?_;refine tk 19 rfl (Qt.bd rfl g11) ?_;refine go [.Z] ?_;refine cd (λc13=>?_) λc13=>?_
   ·try simp only[ah]at c13
    have hS:=i.stop (by omega) (show(cF u) i.k=false by simp only[cF,aI,eE];grind only);refine go [.R,.a,.Z] ?_;refine aQ 2 ?_;refine rb ?_;simp only[cy,dR,df,b8,aS];grind only
   try simp only[ah]at c13
   refine go [.J,.R1,.b,.N,.m,.Z] ?_;refine⟨⟨i.k+1,by omega,i.next (show(cF u) i.k=true by simp only[cF,aI,eE];grind only)⟩,ws,?_⟩;show u.ag.length-(i.k+1)<u.ag.length-i.k;omega
  refine go [.t 3,.x,.t 4,.x,.N,.t 5,.x,.t 6,.x,.t 7,.x,.N,.t 8,.x,.t 9,.x,.t 10,.x,.N,.t 11,.x,.t 12,.x] ?_;refine tk 13 rfl (Qt.bd rfl g10) ?_;refine go [.N,.t 14,.m] ?_;refine aO.split 73 rfl (λg14=>?_) (λg14=>?_)
  ·refine go [.t 15,.x,.t 16,.x,.N,.O 17 [] [16,15,14,13,2,12,1,11,9,0,10,8,7,6,4,5,3],.x,.N,.t 18,.x] ?_;refine tk 19 rfl (Qt.bj rfl g14) ?_;refine go [.Z] ?_;refine cd (λc15=>?_) λc15=>?_
   ·try simp only[ah]at c15
    have hS:=i.stop (by omega) (show(cF u) i.k=false by simp only[cF,aI,eE];grind only);refine go [.R,.a,.Z] ?_;refine aQ 2 ?_;refine rb ?_;simp only[cy,dR,df,b8,aS];grind only
   try simp only[ah]at c15
   refine go [.J,.R1,.b,.N,.m,.Z] ?_;refine⟨⟨i.k+1,by omega,i.next (show(cF u) i.k=true by simp only[cF,aI,eE];grind only)⟩,ws,?_⟩;show u.ag.length-(i.k+1)<u.ag.length-i.k;omega
  refine go [.t 15,.G,.t 16,.G,.N] ?_;refine a1 17 [] [16,15,14,13,2,12,1,11,9,0,10,8,7,6,4,5,3] rfl (nF g14) (aE.aC rfl (by decide) call149 rfl rfl (po u _ (by omega) (by omega) (by omega))) ?_;refine go [.N,.t 18,.n] ?_;refine tk 19 rfl (Qt.bd rfl g14) ?_;refine go [.Z] ?_;refine cd (λc16=>?_) λc16=>?_
  ·try simp only[ah]at c16
   have hS:=i.stop (by omega) (show(cF u) i.k=false by simp only[cF,aI,eE];grind only);refine go [.R,.a,.Z] ?_;refine aQ 2 ?_;refine rb ?_;simp only[cy,dR,df,b8,aS];grind only
  try simp only[ah]at c16
  refine go [.J,.R1,.b,.N,.m,.Z] ?_;refine⟨⟨i.k+1,by omega,i.next (show(cF u) i.k=true by simp only[cF,aI,eE];grind only)⟩,ws,?_⟩;show u.ag.length-(i.k+1)<u.ag.length-i.k;omega
 try simp only[ah]at c9
 have hA:=i.full (by omega);have hP:kG u=true:=hA;refine AW.exit ?_;dsimp only[aD,au,reduceIte];refine go [.R2,.f,.l,.N,.h,.m,.Z] ?_;refine AW.block ?_;refine AW.aL (λj:q_ (dv u) u.ao.length=>[.sl 83 (.v (iv j.k)),.rt 1 .box (T.s 9 1 λk c=>([(T.v (iv u.Next),none),(T.v (iv u.bp),none),(T.j,none),(T.j,none),(T.j,none),(T.j,none),(T.j,none),(T.j,none),(T.j,none)].getD (k*9+c) (T.j,none)).fst),.al 1 2 (.h aa []),.al 1 3 (.h (aa+1) []),.al 1 4 (.h (aa+2) []),.al 1 5 (.h (aa+3) []),.al 1 6 (.h (aa+4) []),.al 1 7 (.h (aa+5) []),.al 1 8 (.h (aa+6) []),.rt aa .ro (tr u.aP),.rt (aa+1) .ro (tr u.ag),.rt (aa+2) .ro (tr u.ao),.rt (aa+3) .ro (tr u.ak),.rt (aa+4) .ro (tr u.ay),.rt (aa+5) .ro (tr u.aN),.rt (aa+6) .ro (tr u.Out),.sl 1 (.p 1 [] 9 0 0),.sl 81 (.h (aa+2) []),.sl 82 (.v (iv u.ao.length))]) (λj=>u.ao.length-j.k) ⟨0,zero_le _,λ_ h=>absurd h (not_lt_zero _)⟩ (ws) ?_;intro j;have hlej:=j.le;have hTj:((j.k:Int)-1).toNat=j.k-1:=by omega
 refine go [.R,.b,.Z] ?_;refine AW.seq ?_;refine cd (λc17=>?_) λc17=>?_
 ·try simp only[ah]at c17
  refine jd (AW.seq (AW.block (sr ?_)));refine go [.m,.N,.i,.G,.A,.N,.a,.s,.Z] ?_;refine AW.seq ?_;refine go [.D [0,1,2,3,4,5,6,7,8,9,10,11,12,13,14,15,16,18,19],.t 0,.m,.N,.t 1,.b,.t 2,.m] ?_;refine aO.split 90 rfl (λg18=>?_) (λg18=>?_)
  ·refine go [.t 3,.f,.N,.t 4,.l,.t 5,.m,.t 6,.b,.N,.t 7,.i,.t 8,.f,.t 9,.l,.N,.t 10,.f,.t 11,.l,.t 12,.b,.N] ?_;refine tk 13 rfl (Qt.bj rfl g18) ?_;refine go [.t 14,.m] ?_;refine aO.split 102 rfl (λg19=>?_) (λg19=>?_)
   ·refine go [.t 15,.x,.N,.t 16,.x,.o 17 [],.x,.N,.t 18,.x] ?_;refine tk 19 rfl (Qt.bj rfl g19) ?_;refine go [.Z] ?_;refine cd (λc20=>?_) λc20=>?_
    ·try simp only[ah]at c20
     have hS:=j.stop (by omega) (show(dv u) j.k=false by simp only[dv,aI];grind only);refine go [.R,.a,.Z] ?_;refine aQ 2 ?_;refine rb ?_;simp only[cy,dR,df,b8,aS];grind only
    try simp only[ah]at c20
    refine go [.J,.R1,.b,.N,.m,.Z] ?_;refine⟨⟨j.k+1,by omega,j.next (show(dv u) j.k=true by simp only[dv,aI];grind only)⟩,ws,?_⟩;show u.ao.length-(j.k+1)<u.ao.length-j.k;omega
   refine go [.t 15,.G,.t 16,.G,.N] ?_;refine a1 17 [] [16,15,14,13,2,12,1,11,9,0,10,8,7,6,4,5,3] rfl (nF g19) (aE.aC rfl (by decide) call150 rfl rfl (px u _ hb)) ?_;refine go [.N,.t 18,.n] ?_;refine tk 19 rfl (Qt.bd rfl g19) ?_;refine go [.Z] ?_;refine cd (λc21=>?_) λc21=>?_
   ·try simp only[ah]at c21
    have hS:=j.stop (by omega) (show(dv u) j.k=false by simp only[dv,aI];grind only);refine go [.R,.a,.Z] ?_;refine aQ 2 ?_;refine rb ?_;simp only[cy,dR,df,b8,aS];grind only
   try simp only[ah]at c21
   refine go [.J,.R1,.b,.N,.m,.Z] ?_;refine⟨⟨j.k+1,by omega,j.next (show(dv u) j.k=true by simp only[dv,aI];grind only)⟩,ws,?_⟩;show u.ao.length-(j.k+1)<u.ao.length-j.k;omega
  refine go [.t 3,.x,.t 4,.x,.N,.t 5,.x,.t 6,.x,.t 7,.x,.N,.t 8,.x,.t 9,.x,.t 10,.x,.N,.t 11,.x,.t 12,.x] ?_;refine tk 13 rfl (Qt.bd rfl g18) ?_;refine go [.N,.t 14,.m] ?_;refine aO.split 102 rfl (λg22=>?_) (λg22=>?_)
  ·refine go [.t 15,.x,.t 16,.x,.N,.O 17 [] [16,15,14,13,2,12,1,11,9,0,10,8,7,6,4,5,3],.x,.N,.t 18,.x] ?_;refine tk 19 rfl (Qt.bj rfl g22) ?_;refine go [.Z] ?_;refine cd (λc23=>?_) λc23=>?_
   ·try simp only[ah]at c23
    have hS:=j.stop (by omega) (show(dv u) j.k=false by simp only[dv,aI];grind only);refine go [.R,.a,.Z] ?_;refine aQ 2 ?_;refine rb ?_;simp only[cy,dR,df,b8,aS];grind only
   try simp only[ah]at c23
   refine go [.J,.R1,.b,.N,.m,.Z] ?_;refine⟨⟨j.k+1,by omega,j.next (show(dv u) j.k=true by simp only[dv,aI];grind only)⟩,ws,?_⟩;show u.ao.length-(j.k+1)<u.ao.length-j.k;omega
  refine go [.t 15,.G,.t 16,.G,.N] ?_;refine a1 17 [] [16,15,14,13,2,12,1,11,9,0,10,8,7,6,4,5,3] rfl (nF g22) (aE.aC rfl (by decide) call150 rfl rfl (px u _ hb)) ?_;refine go [.N,.t 18,.n] ?_;refine tk 19 rfl (Qt.bd rfl g22) ?_;refine go [.Z] ?_;refine cd (λc24=>?_) λc24=>?_
  ·try simp only[ah]at c24
   have hS:=j.stop (by omega) (show(dv u) j.k=false by simp only[dv,aI];grind only);refine go [.R,.a,.Z] ?_;refine aQ 2 ?_;refine rb ?_;simp only[cy,dR,df,b8,aS];grind only
  try simp only[ah]at c24
  refine go [.J,.R1,.b,.N,.m,.Z] ?_;refine⟨⟨j.k+1,by omega,j.next (show(dv u) j.k=true by simp only[dv,aI];grind only)⟩,ws,?_⟩;show u.ao.length-(j.k+1)<u.ao.length-j.k;omega
 try simp only[ah]at c17
 have hB:=j.full (by omega);have hM:=qM (l:=u.ag) (λi hi=>by have:=rL (jO hP hi).2;omega) _ (Nat.le_refl _);have hRd:decide (AK u.aN=cL u.ag)=jK u:=by rw[←tN hP,Bool.eq_iff_iff];simp
 refine AW.exit ?_;dsimp only[aD,au,reduceIte];refine go [.R,.G] ?_;refine cv call151 rfl rfl (vA u hb) ?_;refine go [.N,.b,.m] ?_;apply aB.cut 2
 ·intro Kg25;refine aB.split 112 rfl (λg25=>?_) (λg25=>?_)
  ·refine go [.G,.N] ?_;refine aB.step rfl g25 (aE.aC rfl (by decide) call152 rfl rfl (rM u)) ?_;refine go [.N] ?_;exact bV 114 [113,114] (bY g25 _ undef) Kg25
  ·refine go [.x,.x] ?_;exact bX 114 [113,114] (bU g25 undef _) Kg25
 refine qq (Qt.aG rfl rfl rfl) ?_;refine go [.m] ?_;apply aB.cut 3
 ·intro Kg26;refine aB.split 116 rfl (λg26=>?_) (λg26=>?_)
  ·refine go [.f,.N,.l] ?_;refine aB.step rfl g26 (aE.aC rfl (by decide) call153 rfl rfl (rq _)) ?_;refine go [.N] ?_;exact bV 119 [117,118,119] (bY g26 _ undef) Kg26
  ·refine go [.x,.x,.x] ?_;exact bX 119 [117,118,119] (bU g26 undef _) Kg26
 refine qq (Qt.aG rfl rfl rfl) ?_;refine go [.m] ?_;apply aB.cut 2
 ·intro Kg27;refine aB.split 121 rfl (λg27=>?_) (λg27=>?_)
  ·refine go [.G,.N] ?_;refine aB.step rfl g27 (aE.aC rfl (by decide) call154 rfl rfl (rW u hb)) ?_;refine go [.N] ?_;exact bV 123 [122,123] (bY g27 _ undef) Kg27
  ·refine go [.x,.x] ?_;exact bX 123 [122,123] (bU g27 undef _) Kg27
 refine qq (Qt.aG rfl rfl rfl) ?_;refine go [.a,.Z] ?_;refine aQ 2 ?_;refine rb ?_;simp only[cy,dR,df,b8,aS];grind only
end Go.Proofs.YtekcnnngjoonbaaGreat.VM

