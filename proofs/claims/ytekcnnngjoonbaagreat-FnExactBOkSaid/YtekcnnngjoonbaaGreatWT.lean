/- Contracts. No conditions. -/
import Derived.Test.YtekcnnngjoonbaaGreatWN
import Derived.Test.YtekcnnngjoonbaaGreatWS
set_option linter.all false
set_option maxHeartbeats 8000000
set_option maxRecDepth 10000
namespace Go.Proofs.YtekcnnngjoonbaaGreat.VM
open List Nat
open Go Go.RowKit Go.Proofs
theorem tz(p:List dE):bf Tryz.prog 147 [.h aa []] [.rt aa .ro (tr p)] (λy _=>y= .v (.bool (!(gf p)))):=by
 refine ob Tryz.func147 Tryz.ntmps147 ?_;refine go [.R,.a,.Z,.R,.m] (k:=?_);refine cv Tryz.call148 rfl rfl (rX _) ?_;refine go [.N,.n,.a,.Z] (k:=?_);refine aM 2 ?_;rfl
theorem xK{fid:FuncId}{p:(List dE)→Bool}(hE:l4 Tryz.prog fid)(hp:∀x:List dE,bf Tryz.prog fid [.h aa []] [.rt aa .ro (tr x)] (λy _=>y= .v (.bool (p x))))(l:List (List dE)):bf Tryz.prog 189 [.h aa [], .f fid []] [.rt aa .ro (tr l)] (λy _=>y= .v (iv (gg p l))):=by
 refine ob Tryz.func189 Tryz.ntmps189 ?_;refine AW.len aa [] rfl (by simp[ck]) rfl (λhl=>?_);refine go [.R,.a,.Z,.R2,.m,.h,.N,.m,.Z] (k:=?_);refine AW.block ?_;refine AW.bw (λi:fw p l=>[.sl 8 (.v (iv i.k)), .sl 7 (.v (iv l.length)), .sl 0 (.h aa []), .sl 1 (.f fid []), .rt aa .ro (tr l)]) (λi=>l.length-i.k) ⟨0,zero_le _,rfl⟩ (ws) ?_;intro i;have hle:=i.le;refine go [.R,.b,.Z] (k:=?_);refine AW.seq ?_;refine cd (λc1=>?_) λc1=>?_
 ·try simp only[ai]at c1
  refine jd (AW.seq (AW.block (sr ?_)));refine go [.m,.N,.a,.Z,.R,.m,.m,.N,.m,.i,.l,.N] (k:=?_);refine cv hE rfl rfl (hp (l.getD i.k En.ab)) ?_;refine go [.Z] (k:=?_);refine cd (λc2=>?_) λc2=>?_
  ·try simp only[ai]at c2
   refine go [.R,.m,.N,.a,.Z] (k:=?_);refine aM 4 ?_;rw[dc i En.ab (by omega) c2];rfl
  try simp only[ai]at c2
  refine go [.J,.R1,.b,.m,.Z] (k:=?_);refine⟨⟨i.k+1,by omega,i.next En.ab (by omega) c2⟩,ws,?_⟩;show l.length-(i.k+1)<l.length-i.k;omega
 try simp only[ai]at c1
 refine AW.exit ?_;dsimp only[aJ,ay,reduceIte];refine go [.R,.a,.Z] (k:=?_);refine aM 4 ?_;rw[cD i (by omega)];rfl
theorem wz{fid:FuncId}{p:(List dE)→Bool}(hE:l4 Tryz.prog fid)(hp:∀x:List dE,bf Tryz.prog fid [.h aa []] [.rt aa .ro (tr x)] (λy _=>y= .v (.bool (p x))))(l:List (List dE)):bf Tryz.prog 146 [.h aa [], .f fid []] [.rt aa .ro (tr l)] (λy _=>y= .v (.bool (l.any p))):=by
 refine ob Tryz.func146 Tryz.ntmps146 ?_;refine go [.R,.a,.Z,.R,.m,.m,.N] (k:=?_);refine cv Tryz.call189 rfl rfl (xK hE hp _) ?_;refine go [.N,.b,.a,.Z] (k:=?_);refine aM 4 ?_;rw[←gx];rfl
theorem zH(l:List (List dE)):(l.any λx=> !(gf x))= !(l.all gf):=by rw[Bool.eq_iff_iff];simp
theorem se(u:bt)(hb:jw u):bf Tryz.prog 81 [.g [.v (iv u.Next), .v (iv u.bF), .h aa [], .h (aa+1) [], .h (aa+2) [], .h (aa+3) [], .h (aa+4) [], .h (aa+5) [], .h (aa+6) []]] [.rt aa .ro (tr u.aV), .rt (aa+1) .ro (tr u.ah), .rt (aa+2) .ro (tr u.ax), .rt (aa+3) .ro (tr u.ao), .rt (aa+4) .ro (tr u.aC), .rt (aa+5) .ro (tr u.aR), .rt (aa+6) .ro (tr u.Out)] (λy _=>y= .v (.bool (dn u))):=by
 refine ob Tryz.func81 Tryz.ntmps81 ?_;refine AW.len (aa+1) [] rfl (by simp[ck]) rfl (λhl1=>?_);refine AW.len (aa+2) [] rfl (by simp[ck]) rfl (λhl2=>?_);have hap:=zH u.aV;have hmb:=hb.mem;refine go [.R,.B,.N,.a,.Z,.R2,.f,.l,.N] (k:=?_);refine cv Tryz.call144 rfl rfl (dW _ _ _) ?_;refine go [.N,.n,.m] (k:=?_);apply az.cut 4
 ·intro Kg1;refine az.bA 11 rfl (λg1=>?_) (λg1=>?_)
  ·refine go [.f,.N,.l] (k:=?_);refine az.step rfl (nF g1) (aK.aL rfl (by decide) Tryz.call144 rfl rfl (dW _ _ _)) ?_;refine go [.N,.n] (k:=?_);exact bZ 15 [12,13,14,15] (bY g1 _ undef) Kg1
  ·refine go [.x,.x,.x,.x] (k:=?_);exact bX 15 [12,13,14,15] (b6 g1 undef _) Kg1
 refine qq (Qt.bz rfl rfl rfl) ?_;refine go [.m,.N] (k:=?_);apply az.cut 5
 ·intro Kg2;refine az.bA 17 rfl (λg2=>?_) (λg2=>?_)
  ·refine go [.f,.l,.h,.N] (k:=?_);refine az.step rfl (nF g2) (aK.aL rfl (by decide) Tryz.call144 rfl rfl (dW _ _ _)) ?_;refine go [.N,.n] (k:=?_);exact bZ 22 [18,19,20,21,22] (bY g2 _ undef) Kg2
  ·refine go [.x,.x,.x,.x,.N,.x] (k:=?_);exact bX 22 [18,19,20,21,22] (b6 g2 undef _) Kg2
 refine qq (Qt.bz rfl rfl rfl) ?_;refine go [.m,.N] (k:=?_);apply az.cut 4
 ·intro Kg3;refine az.bA 24 rfl (λg3=>?_) (λg3=>?_)
  ·refine go [.f,.l,.h,.N,.b] (k:=?_);exact bZ 28 [25,26,27,28] (bY g3 _ undef) Kg3
  ·refine go [.x,.x,.x,.x] (k:=?_);exact bX 28 [25,26,27,28] (b6 g3 undef _) Kg3
 refine qq (Qt.bz rfl rfl rfl) ?_;refine go [.m,.N] (k:=?_);apply az.cut 4
 ·intro Kg4;refine az.bA 30 rfl (λg4=>?_) (λg4=>?_)
  ·refine go [.f,.l] (k:=?_);refine az.step rfl (nF g4) (aK.aL rfl (by decide) Tryz.call145 rfl rfl (cl _)) ?_;refine go [.N,.n] (k:=?_);exact bZ 34 [31,32,33,34] (bY g4 _ undef) Kg4
  ·refine go [.x,.x,.x,.x] (k:=?_);exact bX 34 [31,32,33,34] (b6 g4 undef _) Kg4
 refine qq (Qt.bz rfl rfl rfl) ?_;refine go [.Z] (k:=?_);refine cd (λc5=>?_) λc5=>?_
 ·try simp only[ai]at c5
  refine go [.R,.a,.Z] (k:=?_);refine aM 2 ?_;refine rb ?_;simp only[dn,et,dx,ca,aO];grind only
 try simp only[ai]at c5
 refine jd (bP ?_);refine go [.f,.N,.l] (k:=?_);refine cv Tryz.call146 rfl rfl (wz Tryz.call147 (λx=>tz x) u.aV) ?_;refine go [.N,.m] (k:=?_);apply az.cut 4
 ·intro Kg6;refine az.bA 39 rfl (λg6=>?_) (λg6=>?_)
  ·refine go [.f,.l,.N,.h,.b] (k:=?_);exact bZ 43 [40,41,42,43] (bY g6 _ undef) Kg6
  ·refine go [.x,.x,.x,.x] (k:=?_);exact bX 43 [40,41,42,43] (b6 g6 undef _) Kg6
 refine qq (Qt.bz rfl rfl rfl) ?_;refine go [.N,.m] (k:=?_);apply az.cut 4
 ·intro Kg7;refine az.bA 45 rfl (λg7=>?_) (λg7=>?_)
  ·refine go [.f,.l,.N,.h,.b] (k:=?_);exact bZ 49 [46,47,48,49] (bY g7 _ undef) Kg7
  ·refine go [.x,.x,.x,.x] (k:=?_);exact bX 49 [46,47,48,49] (b6 g7 undef _) Kg7
 refine qq (Qt.bz rfl rfl rfl) ?_;refine go [.Z] (k:=?_);refine cd (λc8=>?_) λc8=>?_
 ·try simp only[ai]at c8
  refine go [.R,.a,.Z] (k:=?_);refine aM 2 ?_;refine rb ?_;simp only[dn,et,dx,ca,aO];grind only
 try simp only[ai]at c8
 refine jd (bP ?_);refine go [.f,.N,.l,.h,.m,.Z] (k:=?_);refine AW.block ?_;refine AW.bw (λi:qO (cF u) u.ah.length=>[.sl 54 (.v (iv i.k)), .rt 1 .box (T.s 9 1 λk c=>([(T.v (iv u.Next),none),(T.v (iv u.bF),none),(T.j,none),(T.j,none),(T.j,none),(T.j,none),(T.j,none),(T.j,none),(T.j,none)].getD (k*9+c) (T.j,none)).fst), .al 1 2 (.h aa []), .al 1 3 (.h (aa+1) []), .al 1 4 (.h (aa+2) []), .al 1 5 (.h (aa+3) []), .al 1 6 (.h (aa+4) []), .al 1 7 (.h (aa+5) []), .al 1 8 (.h (aa+6) []), .rt aa .ro (tr u.aV), .rt (aa+1) .ro (tr u.ah), .rt (aa+2) .ro (tr u.ax), .rt (aa+3) .ro (tr u.ao), .rt (aa+4) .ro (tr u.aC), .rt (aa+5) .ro (tr u.aR), .rt (aa+6) .ro (tr u.Out), .sl 1 (.p 1 [] 9 0 0), .sl 52 (.h (aa+1) []), .sl 53 (.v (iv u.ah.length))]) (λi=>u.ah.length-i.k) ⟨0,zero_le _,λ_ h=>absurd h (not_lt_zero _)⟩ (ws) ?_;intro i;have hle:=i.le;have hTi:((i.k:Int)-1).toNat=i.k-1:=by omega
 refine go [.R,.b,.Z] (k:=?_);refine AW.seq ?_;refine cd (λc9=>?_) λc9=>?_
 ·try simp only[ai]at c9
  refine jd (AW.seq (AW.block (sr ?_)));refine go [.m,.N,.i,.G,.A,.N,.a,.s,.Z] (k:=?_);refine AW.seq ?_;refine go [.D [0,1,2,3,4,5,6,7,8,9,10,11,12,13,14,15,16,18,19],.t 0,.m,.N,.t 1,.b,.t 2,.m] (k:=?_);refine aQ.split 61 rfl (λg10=>?_) (λg10=>?_)
  ·refine go [.t 3,.f,.N,.t 4,.l,.t 5,.m,.t 6,.b,.N,.t 7,.i,.t 8,.f,.t 9,.l,.N,.t 10,.f,.t 11,.l,.t 12,.b,.N] (k:=?_);refine tk 13 rfl (Qt.bl rfl g10) ?_;refine go [.t 14,.m] (k:=?_);refine aQ.split 73 rfl (λg11=>?_) (λg11=>?_)
   ·refine go [.t 15,.x,.N,.t 16,.x,.o 17 [],.x,.N,.t 18,.x] (k:=?_);refine tk 19 rfl (Qt.bl rfl g11) ?_;refine go [.Z] (k:=?_);refine cd (λc12=>?_) λc12=>?_
    ·try simp only[ai]at c12
     have hS:=i.stop (by omega) (show(cF u) i.k=false by simp only[cF,aH,eE];grind only);refine go [.R,.a,.Z] (k:=?_);refine aM 2 ?_;refine rb ?_;simp only[dn,et,dx,ca,aO];grind only
    try simp only[ai]at c12
    refine go [.J,.R1,.b,.N,.m,.Z] (k:=?_);refine⟨⟨i.k+1,by omega,i.next (show(cF u) i.k=true by simp only[cF,aH,eE];grind only)⟩,ws,?_⟩;show u.ah.length-(i.k+1)<u.ah.length-i.k;omega
   refine go [.t 15,.G,.t 16,.G,.N] (k:=?_);refine a1 17 [] [16,15,14,13,2,12,1,11,9,0,10,8,7,6,4,5,3] rfl (nF g11) (aK.aL rfl (by decide) Tryz.call149 rfl rfl (nZ u _ (by omega) (by omega) (by omega))) ?_;refine go [.N,.t 18,.n] (k:=?_);refine tk 19 rfl (Qt.bd rfl g11) ?_;refine go [.Z] (k:=?_);refine cd (λc13=>?_) λc13=>?_
   ·try simp only[ai]at c13
    have hS:=i.stop (by omega) (show(cF u) i.k=false by simp only[cF,aH,eE];grind only);refine go [.R,.a,.Z] (k:=?_);refine aM 2 ?_;refine rb ?_;simp only[dn,et,dx,ca,aO];grind only
   try simp only[ai]at c13
   refine go [.J,.R1,.b,.N,.m,.Z] (k:=?_);refine⟨⟨i.k+1,by omega,i.next (show(cF u) i.k=true by simp only[cF,aH,eE];grind only)⟩,ws,?_⟩;show u.ah.length-(i.k+1)<u.ah.length-i.k;omega
  refine go [.t 3,.x,.t 4,.x,.N,.t 5,.x,.t 6,.x,.t 7,.x,.N,.t 8,.x,.t 9,.x,.t 10,.x,.N,.t 11,.x,.t 12,.x] (k:=?_);refine tk 13 rfl (Qt.bd rfl g10) ?_;refine go [.N,.t 14,.m] (k:=?_);refine aQ.split 73 rfl (λg14=>?_) (λg14=>?_)
  ·refine go [.t 15,.x,.t 16,.x,.N,.O 17 [] [16,15,14,13,2,12,1,11,9,0,10,8,7,6,4,5,3],.x,.N,.t 18,.x] (k:=?_);refine tk 19 rfl (Qt.bl rfl g14) ?_;refine go [.Z] (k:=?_);refine cd (λc15=>?_) λc15=>?_
   ·try simp only[ai]at c15
    have hS:=i.stop (by omega) (show(cF u) i.k=false by simp only[cF,aH,eE];grind only);refine go [.R,.a,.Z] (k:=?_);refine aM 2 ?_;refine rb ?_;simp only[dn,et,dx,ca,aO];grind only
   try simp only[ai]at c15
   refine go [.J,.R1,.b,.N,.m,.Z] (k:=?_);refine⟨⟨i.k+1,by omega,i.next (show(cF u) i.k=true by simp only[cF,aH,eE];grind only)⟩,ws,?_⟩;show u.ah.length-(i.k+1)<u.ah.length-i.k;omega
  refine go [.t 15,.G,.t 16,.G,.N] (k:=?_);refine a1 17 [] [16,15,14,13,2,12,1,11,9,0,10,8,7,6,4,5,3] rfl (nF g14) (aK.aL rfl (by decide) Tryz.call149 rfl rfl (nZ u _ (by omega) (by omega) (by omega))) ?_;refine go [.N,.t 18,.n] (k:=?_);refine tk 19 rfl (Qt.bd rfl g14) ?_;refine go [.Z] (k:=?_);refine cd (λc16=>?_) λc16=>?_
  ·try simp only[ai]at c16
   have hS:=i.stop (by omega) (show(cF u) i.k=false by simp only[cF,aH,eE];grind only);refine go [.R,.a,.Z] (k:=?_);refine aM 2 ?_;refine rb ?_;simp only[dn,et,dx,ca,aO];grind only
  try simp only[ai]at c16
  refine go [.J,.R1,.b,.N,.m,.Z] (k:=?_);refine⟨⟨i.k+1,by omega,i.next (show(cF u) i.k=true by simp only[cF,aH,eE];grind only)⟩,ws,?_⟩;show u.ah.length-(i.k+1)<u.ah.length-i.k;omega
 try simp only[ai]at c9
 have hA:=i.full (by omega);have hP:kx u=true:=hA;refine AW.exit ?_;dsimp only[aJ,ay,reduceIte];refine go [.R2,.f,.l,.N,.h,.m,.Z] (k:=?_);refine AW.block ?_;refine AW.bw (λj:qO (dB u) u.ax.length=>[.sl 83 (.v (iv j.k)), .rt 1 .box (T.s 9 1 λk c=>([(T.v (iv u.Next),none),(T.v (iv u.bF),none),(T.j,none),(T.j,none),(T.j,none),(T.j,none),(T.j,none),(T.j,none),(T.j,none)].getD (k*9+c) (T.j,none)).fst), .al 1 2 (.h aa []), .al 1 3 (.h (aa+1) []), .al 1 4 (.h (aa+2) []), .al 1 5 (.h (aa+3) []), .al 1 6 (.h (aa+4) []), .al 1 7 (.h (aa+5) []), .al 1 8 (.h (aa+6) []), .rt aa .ro (tr u.aV), .rt (aa+1) .ro (tr u.ah), .rt (aa+2) .ro (tr u.ax), .rt (aa+3) .ro (tr u.ao), .rt (aa+4) .ro (tr u.aC), .rt (aa+5) .ro (tr u.aR), .rt (aa+6) .ro (tr u.Out), .sl 1 (.p 1 [] 9 0 0), .sl 81 (.h (aa+2) []), .sl 82 (.v (iv u.ax.length))]) (λj=>u.ax.length-j.k) ⟨0,zero_le _,λ_ h=>absurd h (not_lt_zero _)⟩ (ws) ?_;intro j;have hlej:=j.le;have hTj:((j.k:Int)-1).toNat=j.k-1:=by omega
 refine go [.R,.b,.Z] (k:=?_);refine AW.seq ?_;refine cd (λc17=>?_) λc17=>?_
 ·try simp only[ai]at c17
  refine jd (AW.seq (AW.block (sr ?_)));refine go [.m,.N,.i,.G,.A,.N,.a,.s,.Z] (k:=?_);refine AW.seq ?_;refine go [.D [0,1,2,3,4,5,6,7,8,9,10,11,12,13,14,15,16,18,19],.t 0,.m,.N,.t 1,.b,.t 2,.m] (k:=?_);refine aQ.split 90 rfl (λg18=>?_) (λg18=>?_)
  ·refine go [.t 3,.f,.N,.t 4,.l,.t 5,.m,.t 6,.b,.N,.t 7,.i,.t 8,.f,.t 9,.l,.N,.t 10,.f,.t 11,.l,.t 12,.b,.N] (k:=?_);refine tk 13 rfl (Qt.bl rfl g18) ?_;refine go [.t 14,.m] (k:=?_);refine aQ.split 102 rfl (λg19=>?_) (λg19=>?_)
   ·refine go [.t 15,.x,.N,.t 16,.x,.o 17 [],.x,.N,.t 18,.x] (k:=?_);refine tk 19 rfl (Qt.bl rfl g19) ?_;refine go [.Z] (k:=?_);refine cd (λc20=>?_) λc20=>?_
    ·try simp only[ai]at c20
     have hS:=j.stop (by omega) (show(dB u) j.k=false by simp only[dB,aH];grind only);refine go [.R,.a,.Z] (k:=?_);refine aM 2 ?_;refine rb ?_;simp only[dn,et,dx,ca,aO];grind only
    try simp only[ai]at c20
    refine go [.J,.R1,.b,.N,.m,.Z] (k:=?_);refine⟨⟨j.k+1,by omega,j.next (show(dB u) j.k=true by simp only[dB,aH];grind only)⟩,ws,?_⟩;show u.ax.length-(j.k+1)<u.ax.length-j.k;omega
   refine go [.t 15,.G,.t 16,.G,.N] (k:=?_);refine a1 17 [] [16,15,14,13,2,12,1,11,9,0,10,8,7,6,4,5,3] rfl (nF g19) (aK.aL rfl (by decide) Tryz.call150 rfl rfl (od u _ hb)) ?_;refine go [.N,.t 18,.n] (k:=?_);refine tk 19 rfl (Qt.bd rfl g19) ?_;refine go [.Z] (k:=?_);refine cd (λc21=>?_) λc21=>?_
   ·try simp only[ai]at c21
    have hS:=j.stop (by omega) (show(dB u) j.k=false by simp only[dB,aH];grind only);refine go [.R,.a,.Z] (k:=?_);refine aM 2 ?_;refine rb ?_;simp only[dn,et,dx,ca,aO];grind only
   try simp only[ai]at c21
   refine go [.J,.R1,.b,.N,.m,.Z] (k:=?_);refine⟨⟨j.k+1,by omega,j.next (show(dB u) j.k=true by simp only[dB,aH];grind only)⟩,ws,?_⟩;show u.ax.length-(j.k+1)<u.ax.length-j.k;omega
  refine go [.t 3,.x,.t 4,.x,.N,.t 5,.x,.t 6,.x,.t 7,.x,.N,.t 8,.x,.t 9,.x,.t 10,.x,.N,.t 11,.x,.t 12,.x] (k:=?_);refine tk 13 rfl (Qt.bd rfl g18) ?_;refine go [.N,.t 14,.m] (k:=?_);refine aQ.split 102 rfl (λg22=>?_) (λg22=>?_)
  ·refine go [.t 15,.x,.t 16,.x,.N,.O 17 [] [16,15,14,13,2,12,1,11,9,0,10,8,7,6,4,5,3],.x,.N,.t 18,.x] (k:=?_);refine tk 19 rfl (Qt.bl rfl g22) ?_;refine go [.Z] (k:=?_);refine cd (λc23=>?_) λc23=>?_
   ·try simp only[ai]at c23
    have hS:=j.stop (by omega) (show(dB u) j.k=false by simp only[dB,aH];grind only);refine go [.R,.a,.Z] (k:=?_);refine aM 2 ?_;refine rb ?_;simp only[dn,et,dx,ca,aO];grind only
   try simp only[ai]at c23
   refine go [.J,.R1,.b,.N,.m,.Z] (k:=?_);refine⟨⟨j.k+1,by omega,j.next (show(dB u) j.k=true by simp only[dB,aH];grind only)⟩,ws,?_⟩;show u.ax.length-(j.k+1)<u.ax.length-j.k;omega
  refine go [.t 15,.G,.t 16,.G,.N] (k:=?_);refine a1 17 [] [16,15,14,13,2,12,1,11,9,0,10,8,7,6,4,5,3] rfl (nF g22) (aK.aL rfl (by decide) Tryz.call150 rfl rfl (od u _ hb)) ?_;refine go [.N,.t 18,.n] (k:=?_);refine tk 19 rfl (Qt.bd rfl g22) ?_;refine go [.Z] (k:=?_);refine cd (λc24=>?_) λc24=>?_
  ·try simp only[ai]at c24
   have hS:=j.stop (by omega) (show(dB u) j.k=false by simp only[dB,aH];grind only);refine go [.R,.a,.Z] (k:=?_);refine aM 2 ?_;refine rb ?_;simp only[dn,et,dx,ca,aO];grind only
  try simp only[ai]at c24
  refine go [.J,.R1,.b,.N,.m,.Z] (k:=?_);refine⟨⟨j.k+1,by omega,j.next (show(dB u) j.k=true by simp only[dB,aH];grind only)⟩,ws,?_⟩;show u.ax.length-(j.k+1)<u.ax.length-j.k;omega
 try simp only[ai]at c17
 have hB:=j.full (by omega);have hM:=pN (l:=u.ah) (λi hi=>by have:=qD (oz hP hi).2;omega) _ (Nat.le_refl _);have hRd:decide (y8 u.aR=df u.ah)=jQ u:=by rw[←x6 hP,Bool.eq_iff_iff];simp
 refine AW.exit ?_;dsimp only[aJ,ay,reduceIte];refine go [.R,.G] (k:=?_);refine cv Tryz.call151 rfl rfl (ug u hb) ?_;refine go [.N,.b,.m] (k:=?_);apply az.cut 2
 ·intro Kg25;refine az.split 112 rfl (λg25=>?_) (λg25=>?_)
  ·refine go [.G,.N] (k:=?_);refine az.step rfl g25 (aK.aL rfl (by decide) Tryz.call152 rfl rfl (qB u)) ?_;refine go [.N] (k:=?_);exact bZ 114 [113,114] (b6 g25 _ undef) Kg25
  ·refine go [.x,.x] (k:=?_);exact bX 114 [113,114] (bY g25 undef _) Kg25
 refine qq (Qt.aD rfl rfl rfl) ?_;refine go [.m] (k:=?_);apply az.cut 3
 ·intro Kg26;refine az.split 116 rfl (λg26=>?_) (λg26=>?_)
  ·refine go [.f,.N,.l] (k:=?_);refine az.step rfl g26 (aK.aL rfl (by decide) Tryz.call153 rfl rfl (qI _)) ?_;refine go [.N] (k:=?_);exact bZ 119 [117,118,119] (b6 g26 _ undef) Kg26
  ·refine go [.x,.x,.x] (k:=?_);exact bX 119 [117,118,119] (bY g26 undef _) Kg26
 refine qq (Qt.aD rfl rfl rfl) ?_;refine go [.m] (k:=?_);apply az.cut 2
 ·intro Kg27;refine az.split 121 rfl (λg27=>?_) (λg27=>?_)
  ·refine go [.G,.N] (k:=?_);refine az.step rfl g27 (aK.aL rfl (by decide) Tryz.call154 rfl rfl (qZ u hb)) ?_;refine go [.N] (k:=?_);exact bZ 123 [122,123] (b6 g27 _ undef) Kg27
  ·refine go [.x,.x] (k:=?_);exact bX 123 [122,123] (bY g27 undef _) Kg27
 refine qq (Qt.aD rfl rfl rfl) ?_;refine go [.a,.Z] (k:=?_);refine aM 2 ?_;refine rb ?_;simp only[dn,et,dx,ca,aO];grind only
end Go.Proofs.YtekcnnngjoonbaaGreat.VM

