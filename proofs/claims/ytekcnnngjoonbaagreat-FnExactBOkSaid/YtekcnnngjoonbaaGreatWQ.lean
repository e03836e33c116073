/- Contracts. No conditions. -/
import Derived.Test.YtekcnnngjoonbaaGreatWm
set_option linter.all false
set_option maxHeartbeats 8000000
set_option maxRecDepth 10000
namespace Go.Proofs.YtekcnnngjoonbaaGreat.VM
open List Nat
open Go Go.RowKit Go.Proofs
theorem mR(u:bt)(f:Int):bf Tryz.prog 196 [.v (iv f), .p aa [] 9 0 0] [.rt aa .ro (tr [u])] (λy _=>y= .v (.bool (!(tm u f)))):=by
 refine ob Tryz.func196 Tryz.ntmps196 ?_;refine go [.R,.a,.Z,.R,.m,.b,.N,.m] (k:=?_);apply az.cut 4
 ·intro Kg1;refine az.split 6 rfl (λg1=>?_) (λg1=>?_)
  ·refine go [.G,.m,.N] (k:=?_);refine az.step rfl g1 (aK.aL rfl (by decide) Tryz.call197 rfl rfl (kj u _)) ?_;refine go [.N,.b] (k:=?_);exact bZ 10 [7,8,9,10] (b6 g1 _ undef) Kg1
  ·refine go [.x,.x,.x,.x] (k:=?_);exact bX 10 [7,8,9,10] (bY g1 undef _) Kg1
 refine qq (Qt.aD rfl rfl rfl) ?_;refine go [.a,.Z] (k:=?_);refine aM 3 ?_;refine rb ?_;simp only[tm];grind only
theorem mS(f:Int):bf Tryz.prog 198 [.v (iv f)] [] (λy _=>y= .v (.bool (!(f== -1)))):=by
 refine ob Tryz.func198 Tryz.ntmps198 ?_;refine go [.R,.a,.Z,.R,.m,.b,.N,.a,.Z] (k:=?_);refine aM 2 ?_;rfl
theorem xR{fid:FuncId}{p:Int→Bool}(u0:bt)(hE:l4 Tryz.prog fid)(hp:∀x:Int,bf Tryz.prog fid [.v (iv x), .p aa [] 9 0 0] [.rt aa .ro (tr [u0])] (λy _=>y= .v (.bool (p x))))(l:List Int):bf Tryz.prog 168 [.h aa [], .f fid [.p (aa+1) [] 9 0 0]] [.rt aa .ro (tr l), .rt (aa+1) .ro (tr [u0])] (λy _=>y= .v (iv (gg p l))):=by
 refine ob Tryz.func168 Tryz.ntmps168 ?_;refine AW.len aa [] rfl (by simp[ck]) rfl (λhl=>?_);refine go [.R,.a,.Z,.R2,.m,.h,.N,.m,.Z] (k:=?_);refine AW.block ?_;refine AW.bw (λi:fw p l=>[.sl 8 (.v (iv i.k)), .sl 7 (.v (iv l.length)), .sl 0 (.h aa []), .sl 1 (.f fid [.p (aa+1) [] 9 0 0]), .rt aa .ro (tr l), .rt (aa+1) .ro (tr [u0])]) (λi=>l.length-i.k) ⟨0,zero_le _,rfl⟩ (ws) ?_;intro i;have hle:=i.le;refine go [.R,.b,.Z] (k:=?_);refine AW.seq ?_;refine cd (λc1=>?_) λc1=>?_
 ·try simp only[ai]at c1
  refine jd (AW.seq (AW.block (sr ?_)));refine go [.m,.N,.a,.Z,.R,.m,.m,.N,.m,.i,.l,.N] (k:=?_);refine cv hE rfl rfl (bf.gE (hp (l.getD i.k En.ab)) ⟨⟨_,rfl,(cB (λc hc=>match c,hc with|0,_=>au|1,_=>au|2,_=>au|3,_=>au|4,_=>au|5,_=>au|6,_=>au|7,_=>au|8,_=>au|c+9,hc=>absurd hc (by simp only[En.n];omega)))⟩,trivial⟩ rfl rfl rfl) ?_;refine go [.Z] (k:=?_);refine cd (λc2=>?_) λc2=>?_
  ·try simp only[ai]at c2
   refine go [.R,.m,.N,.a,.Z] (k:=?_);refine aM 4 ?_;rw[dc i En.ab (by omega) c2];rfl
  try simp only[ai]at c2
  refine go [.J,.R1,.b,.m,.Z] (k:=?_);refine⟨⟨i.k+1,by omega,i.next En.ab (by omega) c2⟩,ws,?_⟩;show l.length-(i.k+1)<l.length-i.k;omega
 try simp only[ai]at c1
 refine AW.exit ?_;dsimp only[aJ,ay,reduceIte];refine go [.R,.a,.Z] (k:=?_);refine aM 4 ?_;rw[cD i (by omega)];rfl
theorem pX{fid:FuncId}{p:Int→Bool}(u0:bt)(hE:l4 Tryz.prog fid)(hp:∀x:Int,bf Tryz.prog fid [.v (iv x), .p aa [] 9 0 0] [.rt aa .ro (tr [u0])] (λy _=>y= .v (.bool (p x))))(l:List Int):bf Tryz.prog 110 [.h aa [], .f fid [.p (aa+1) [] 9 0 0]] [.rt aa .ro (tr l), .rt (aa+1) .ro (tr [u0])] (λy _=>y= .v (.bool (l.any p))):=by
 refine ob Tryz.func110 Tryz.ntmps110 ?_;refine go [.R,.a,.Z,.R,.m,.m,.N] (k:=?_);refine cv Tryz.call168 rfl rfl (bf.gE (xR u0 hE hp l) ⟨⟨_,rfl,au⟩,⟨_,rfl,(cB (λc hc=>match c,hc with|0,_=>au|1,_=>au|2,_=>au|3,_=>au|4,_=>au|5,_=>au|6,_=>au|7,_=>au|8,_=>au|c+9,hc=>absurd hc (by simp only[En.n];omega)))⟩,trivial⟩ rfl rfl rfl) ?_;refine go [.N,.b,.a,.Z] (k:=?_);refine aM 4 ?_;rw[←gx];rfl
theorem xC(l:List Int)(p:Int→Bool):(l.any λx=> !(p x))= !(l.all p):=by rw[Bool.eq_iff_iff];simp
open Go Go.RowKit Go.Proofs
theorem nZ(u:bt)(p:bG)(hn:1≤u.Next)(hn2:u.Next≤100000)(hpl:(u.aV.length:Int)≤4):bf Tryz.prog 149 [.g [.v (iv u.Next), .v (iv u.bF), .h aa [], .h (aa+1) [], .h (aa+2) [], .h (aa+3) [], .h (aa+4) [], .h (aa+5) [], .h (aa+6) []], .g [.v (iv p.fc), .v (iv p.b_), .v (iv p.State), .v (iv p.ft), .v (iv p.d_.Pc), .h (aa+7) [], .h (aa+8) [], .h (aa+9) [], .v (iv p.di), .v (iv p.Code)]] [.rt aa .ro (tr u.aV), .rt (aa+1) .ro (tr u.ah), .rt (aa+2) .ro (tr u.ax), .rt (aa+3) .ro (tr u.ao), .rt (aa+4) .ro (tr u.aC), .rt (aa+5) .ro (tr u.aR), .rt (aa+6) .ro (tr u.Out), .rt (aa+7) .ro (tr p.d_.cy), .rt (aa+8) .ro (tr p.Mem), .rt (aa+9) .ro (tr p.cV)] (λy _=>y= .v (.bool (c_ u p))):=by
 refine ob Tryz.func149 Tryz.ntmps149 ?_;have hpb:kg u p.b_<u.ah.length:=(ny _ _).2;have hA1:=xC p.cV (tm u);have hA2:=xC p.cV (λx=>x== -1);refine AW.len (aa+8) [] rfl (by simp[ck]) rfl (λhlm=>?_);refine go [.R,.B,.N,.B,.N,.a,.Z,.R2,.f,.l,.N,.f,.l,.b,.N] (k:=?_);refine cv Tryz.call144 rfl rfl (dW _ _ _) ?_;refine go [.N,.n,.m] (k:=?_);apply az.cut 4
 ·intro Kg1;refine az.bA 13 rfl (λg1=>?_) (λg1=>?_)
  ·have eg1:=g1
   try simp only[ai]at eg1
   refine go [.f,.N,.l] (k:=?_);refine az.step rfl (nF g1) (aK.aL rfl (by decide) Tryz.call144 rfl rfl (dW _ _ _)) ?_;refine go [.N,.n] (k:=?_);exact bZ 17 [14,15,16,17] (bY g1 _ undef) Kg1
  ·refine go [.x,.x,.x,.x] (k:=?_);exact bX 17 [14,15,16,17] (b6 g1 undef _) Kg1
 refine qq (Qt.bz rfl rfl rfl) ?_;refine go [.m,.N] (k:=?_);apply az.cut 8
 ·intro Kg2;refine az.bA 19 rfl (λg2=>?_) (λg2=>?_)
  ·have eg2:=g2
   try simp only[ai]at eg2
   refine go [.f,.l,.f,.N,.l,.h,.b,.N] (k:=?_);refine az.step rfl (nF g2) (aK.aL rfl (by decide) Tryz.call144 rfl rfl (dW _ _ _)) ?_;refine go [.N,.n] (k:=?_);exact bZ 27 [20,21,22,23,24,25,26,27] (bY g2 _ undef) Kg2
  ·refine go [.x,.x,.x,.x,.N,.x,.x,.x,.x] (k:=?_);exact bX 27 [20,21,22,23,24,25,26,27] (b6 g2 undef _) Kg2
 refine qq (Qt.bz rfl rfl rfl) ?_;refine go [.m,.N] (k:=?_);apply az.cut 4
 ·intro Kg3;refine az.bA 29 rfl (λg3=>?_) (λg3=>?_)
  ·have eg3:=g3
   try simp only[ai]at eg3
   refine go [.f,.G] (k:=?_);refine az.step rfl (nF g3) (aK.aL rfl (by decide) Tryz.call193 rfl rfl (um _ _)) ?_;refine go [.N,.n] (k:=?_);exact bZ 33 [30,31,32,33] (bY g3 _ undef) Kg3
  ·refine go [.x,.x,.x,.x] (k:=?_);exact bX 33 [30,31,32,33] (b6 g3 undef _) Kg3
 refine qq (Qt.bz rfl rfl rfl) ?_;refine go [.m,.N] (k:=?_);apply az.cut 4
 ·intro Kg4;refine az.bA 35 rfl (λg4=>?_) (λg4=>?_)
  ·have eg4:=g4
   try simp only[ai]at eg4
   refine go [.f,.l] (k:=?_);refine az.step rfl (nF g4) (aK.aL rfl (by decide) Tryz.call188 rfl rfl (lx _)) ?_;refine go [.N,.n] (k:=?_);exact bZ 39 [36,37,38,39] (bY g4 _ undef) Kg4
  ·refine go [.x,.x,.x,.x] (k:=?_);exact bX 39 [36,37,38,39] (b6 g4 undef _) Kg4
 refine qq (Qt.bz rfl rfl rfl) ?_;refine go [.Z] (k:=?_);refine cd (λc5=>?_) λc5=>?_
 ·try simp only[ai]at c5
  refine go [.R,.a,.Z] (k:=?_);refine aM 4 ?_;refine rb ?_;simp only[c_,cI,br,cU,cS];grind only
 try simp only[ai]at c5
 refine jd (bP ?_);refine go [.f,.N,.l,.b,.Z] (k:=?_);refine cd (λc6=>?_) λc6=>?_
 ·try simp only[ai]at c6
  refine go [.R,.G,.N,.f,.l] (k:=?_);refine cv Tryz.call194 rfl rfl (sL u _) ?_;refine go [.N,.a,.Z,.R,.m,.b,.N,.m] (k:=?_);apply az.cut 5
  ·intro Kg7;refine az.bA 50 rfl (λg7=>?_) (λg7=>?_)
   ·have eg7:=g7
    try simp only[ai]at eg7
    refine go [.f,.l,.N,.f,.l,.b,.N] (k:=?_);exact bZ 55 [51,52,53,54,55] (bY g7 _ undef) Kg7
   ·refine go [.x,.x,.x,.x,.N,.x] (k:=?_);exact bX 55 [51,52,53,54,55] (b6 g7 undef _) Kg7
  refine qq (Qt.bz rfl rfl rfl) ?_;refine go [.m] (k:=?_);apply az.cut 7
  ·intro Kg8;refine az.bA 57 rfl (λg8=>?_) (λg8=>?_)
   ·have eg8:=g8
    try simp only[ai]at eg8
    refine go [.f,.N,.l,.m,.i,.N,.f,.l,.b,.N] (k:=?_);exact bZ 64 [58,59,60,61,62,63,64] (bY g8 _ undef) Kg8
   ·refine go [.x,.x,.x,.x,.N,.x,.x,.x] (k:=?_);exact bX 64 [58,59,60,61,62,63,64] (b6 g8 undef _) Kg8
  refine qq (Qt.bz rfl rfl rfl) ?_;refine go [.Z] (k:=?_);refine cd (λc9=>?_) λc9=>?_
  ·try simp only[ai]at c9
   refine go [.R,.a,.Z] (k:=?_);refine aM 4 ?_;refine rb ?_;simp only[c_,cI,br,cU,cS];grind only
  try simp only[ai]at c9
  refine jd (bP ?_);refine go [.f,.N,.l,.h,.b,.N,.m] (k:=?_);apply az.cut 5
  ·intro Kg10;refine az.bA 70 rfl (λg10=>?_) (λg10=>?_)
   ·have eg10:=g10
    try simp only[ai]at eg10
    refine go [.f,.l,.N,.h] (k:=?_);refine qg (nF g10) (Qt.binOp rfl rfl (by first|exact lb _|rfl|exact ls (by omega))) ?_;refine go [.b,.N] (k:=?_);exact bZ 75 [71,72,73,74,75] (bY g10 _ undef) Kg10
   ·refine go [.x,.x,.x,.x,.N,.x] (k:=?_);exact bX 75 [71,72,73,74,75] (b6 g10 undef _) Kg10
  refine qq (Qt.bz rfl rfl rfl) ?_;refine go [.m] (k:=?_);apply az.cut 4
  ·intro Kg11;refine az.bA 77 rfl (λg11=>?_) (λg11=>?_)
   ·have eg11:=g11
    try simp only[ai]at eg11
    refine go [.f,.N,.l] (k:=?_);refine az.step rfl (nF g11) (aK.aL rfl (by decide) Tryz.call145 rfl rfl (cl _)) ?_;refine go [.N,.n] (k:=?_);exact bZ 81 [78,79,80,81] (bY g11 _ undef) Kg11
   ·refine go [.x,.x,.x,.x] (k:=?_);exact bX 81 [78,79,80,81] (b6 g11 undef _) Kg11
  refine qq (Qt.bz rfl rfl rfl) ?_;refine go [.m,.N] (k:=?_);apply az.cut 4
  ·intro Kg12;refine az.bA 83 rfl (λg12=>?_) (λg12=>?_)
   ·have eg12:=g12
    try simp only[ai]at eg12
    refine go [.f,.l,.h,.N,.b] (k:=?_);exact bZ 87 [84,85,86,87] (bY g12 _ undef) Kg12
   ·refine go [.x,.x,.x,.x] (k:=?_);exact bX 87 [84,85,86,87] (b6 g12 undef _) Kg12
  refine qq (Qt.bz rfl rfl rfl) ?_;refine go [.m,.N] (k:=?_);apply az.cut 4
  ·intro Kg13;refine az.bA 89 rfl (λg13=>?_) (λg13=>?_)
   ·have eg13:=g13
    try simp only[ai]at eg13
    refine go [.G,.G] (k:=?_);refine az.step rfl (nF g13) (aK.aL rfl (by decide) Tryz.call195 rfl rfl (mP u p)) ?_;refine go [.N,.n] (k:=?_);exact bZ 93 [90,91,92,93] (bY g13 _ undef) Kg13
   ·refine go [.x,.x,.x,.x] (k:=?_);exact bX 93 [90,91,92,93] (b6 g13 undef _) Kg13
  refine qq (Qt.bz rfl rfl rfl) ?_;refine go [.Z] (k:=?_);refine cd (λc14=>?_) λc14=>?_
  ·try simp only[ai]at c14
   refine go [.R,.a,.Z] (k:=?_);refine aM 4 ?_;refine rb ?_;simp only[c_,cI,br,cU,cS];grind only
  try simp only[ai]at c14
  refine jd (bP ?_);refine go [.f,.N,.l] (k:=?_);refine qq Qt.makeFunc ?_;refine cv Tryz.call110 rfl rfl (bf.gE (pX u Tryz.call196 (λx=>mR u x) p.cV) ⟨⟨_,rfl,au⟩,⟨_,rfl,(cB (λc hc=>match c,hc with|0,_=>au|1,_=>au|2,_=>au|3,_=>au|4,_=>au|5,_=>au|6,_=>au|7,_=>au|8,_=>au|c+9,hc=>absurd hc (by simp only[En.n];omega)))⟩,trivial⟩ rfl rfl rfl) ?_;refine go [.Z] (k:=?_);refine cd (λc15=>?_) λc15=>?_
  ·try simp only[ai]at c15
   refine go [.R,.a,.Z] (k:=?_);refine aM 4 ?_;refine rb ?_;simp only[c_,cI,br,cU,cS];grind only
  try simp only[ai]at c15
  refine jd (bP ?_);refine go [.f,.N,.l,.b,.Z] (k:=?_);refine cd (λc16=>?_) λc16=>?_
  ·try simp only[ai]at c16
   refine go [.R,.f,.N,.l,.h,.b,.N,.m] (k:=?_);apply az.cut 3
   ·intro Kg17;refine az.split 106 rfl (λg17=>?_) (λg17=>?_)
    ·have eg17:=g17
     try simp only[ai]at eg17
     refine go [.f,.l,.N,.b] (k:=?_);exact bZ 109 [107,108,109] (b6 g17 _ undef) Kg17
    ·refine go [.x,.x,.x] (k:=?_);exact bX 109 [107,108,109] (bY g17 undef _) Kg17
   refine qq (Qt.aD rfl rfl rfl) ?_;refine go [.m,.N] (k:=?_);apply az.cut 4
   ·intro Kg18;refine az.split 111 rfl (λg18=>?_) (λg18=>?_)
    ·have eg18:=g18
     try simp only[ai]at eg18
     refine go [.f,.l] (k:=?_);refine az.step rfl g18 (aK.aL rfl (by decide) Tryz.call110 rfl rfl (nU Tryz.call198 (λx=>mS x) p.cV)) ?_;refine go [.N,.n] (k:=?_);exact bZ 115 [112,113,114,115] (b6 g18 _ undef) Kg18
    ·refine go [.x,.x,.x,.x] (k:=?_);exact bX 115 [112,113,114,115] (bY g18 undef _) Kg18
   refine qq (Qt.aD rfl rfl rfl) ?_;refine go [.a,.Z] (k:=?_);refine aM 4 ?_;refine rb ?_;simp only[c_,cI,br,cU,cS];grind only
  try simp only[ai]at c16
  refine go [.J,.R,.f,.N,.l,.h,.b,.N,.m] (k:=?_);apply az.cut 3
  ·intro Kg19;refine az.split 121 rfl (λg19=>?_) (λg19=>?_)
   ·have eg19:=g19
    try simp only[ai]at eg19
    refine go [.f,.l,.N,.b] (k:=?_);exact bZ 124 [122,123,124] (b6 g19 _ undef) Kg19
   ·refine go [.x,.x,.x] (k:=?_);exact bX 124 [122,123,124] (bY g19 undef _) Kg19
  refine qq (Qt.aD rfl rfl rfl) ?_;refine go [.a,.Z] (k:=?_);refine aM 4 ?_;refine rb ?_;simp only[c_,cI,br,cU,cS];grind only
 try simp only[ai]at c6
 refine jd (bP ?_);refine go [.f,.N,.l,.h,.b,.N,.m] (k:=?_);apply az.cut 5
 ·intro Kg20;refine az.bA 70 rfl (λg20=>?_) (λg20=>?_)
  ·have eg20:=g20
   try simp only[ai]at eg20
   refine go [.f,.l,.N,.h] (k:=?_);refine qg (nF g20) (Qt.binOp rfl rfl (by first|exact lb _|rfl|exact ls (by omega))) ?_;refine go [.b,.N] (k:=?_);exact bZ 75 [71,72,73,74,75] (bY g20 _ undef) Kg20
  ·refine go [.x,.x,.x,.x,.N,.x] (k:=?_);exact bX 75 [71,72,73,74,75] (b6 g20 undef _) Kg20
 refine qq (Qt.bz rfl rfl rfl) ?_;refine go [.m] (k:=?_);apply az.cut 4
 ·intro Kg21;refine az.bA 77 rfl (λg21=>?_) (λg21=>?_)
  ·have eg21:=g21
   try simp only[ai]at eg21
   refine go [.f,.N,.l] (k:=?_);refine az.step rfl (nF g21) (aK.aL rfl (by decide) Tryz.call145 rfl rfl (cl _)) ?_;refine go [.N,.n] (k:=?_);exact bZ 81 [78,79,80,81] (bY g21 _ undef) Kg21
  ·refine go [.x,.x,.x,.x] (k:=?_);exact bX 81 [78,79,80,81] (b6 g21 undef _) Kg21
 refine qq (Qt.bz rfl rfl rfl) ?_;refine go [.m,.N] (k:=?_);apply az.cut 4
 ·intro Kg22;refine az.bA 83 rfl (λg22=>?_) (λg22=>?_)
  ·have eg22:=g22
   try simp only[ai]at eg22
   refine go [.f,.l,.h,.N,.b] (k:=?_);exact bZ 87 [84,85,86,87] (bY g22 _ undef) Kg22
  ·refine go [.x,.x,.x,.x] (k:=?_);exact bX 87 [84,85,86,87] (b6 g22 undef _) Kg22
 refine qq (Qt.bz rfl rfl rfl) ?_;refine go [.m,.N] (k:=?_);apply az.cut 4
 ·intro Kg23;refine az.bA 89 rfl (λg23=>?_) (λg23=>?_)
  ·have eg23:=g23
   try simp only[ai]at eg23
   refine go [.G,.G] (k:=?_);refine az.step rfl (nF g23) (aK.aL rfl (by decide) Tryz.call195 rfl rfl (mP u p)) ?_;refine go [.N,.n] (k:=?_);exact bZ 93 [90,91,92,93] (bY g23 _ undef) Kg23
  ·refine go [.x,.x,.x,.x] (k:=?_);exact bX 93 [90,91,92,93] (b6 g23 undef _) Kg23
 refine qq (Qt.bz rfl rfl rfl) ?_;refine go [.Z] (k:=?_);refine cd (λc24=>?_) λc24=>?_
 ·try simp only[ai]at c24
  refine go [.R,.a,.Z] (k:=?_);refine aM 4 ?_;refine rb ?_;simp only[c_,cI,br,cU,cS];grind only
 try simp only[ai]at c24
 refine jd (bP ?_);refine go [.f,.N,.l] (k:=?_);refine qq Qt.makeFunc ?_;refine cv Tryz.call110 rfl rfl (bf.gE (pX u Tryz.call196 (λx=>mR u x) p.cV) ⟨⟨_,rfl,au⟩,⟨_,rfl,(cB (λc hc=>match c,hc with|0,_=>au|1,_=>au|2,_=>au|3,_=>au|4,_=>au|5,_=>au|6,_=>au|7,_=>au|8,_=>au|c+9,hc=>absurd hc (by simp only[En.n];omega)))⟩,trivial⟩ rfl rfl rfl) ?_;refine go [.Z] (k:=?_);refine cd (λc25=>?_) λc25=>?_
 ·try simp only[ai]at c25
  refine go [.R,.a,.Z] (k:=?_);refine aM 4 ?_;refine rb ?_;simp only[c_,cI,br,cU,cS];grind only
 try simp only[ai]at c25
 refine jd (bP ?_);refine go [.f,.N,.l,.b,.Z] (k:=?_);refine cd (λc26=>?_) λc26=>?_
 ·try simp only[ai]at c26
  refine go [.R,.f,.N,.l,.h,.b,.N,.m] (k:=?_);apply az.cut 3
  ·intro Kg27;refine az.split 106 rfl (λg27=>?_) (λg27=>?_)
   ·have eg27:=g27
    try simp only[ai]at eg27
    refine go [.f,.l,.N,.b] (k:=?_);exact bZ 109 [107,108,109] (b6 g27 _ undef) Kg27
   ·refine go [.x,.x,.x] (k:=?_);exact bX 109 [107,108,109] (bY g27 undef _) Kg27
  refine qq (Qt.aD rfl rfl rfl) ?_;refine go [.m,.N] (k:=?_);apply az.cut 4
  ·intro Kg28;refine az.split 111 rfl (λg28=>?_) (λg28=>?_)
   ·have eg28:=g28
    try simp only[ai]at eg28
    refine go [.f,.l] (k:=?_);refine az.step rfl g28 (aK.aL rfl (by decide) Tryz.call110 rfl rfl (nU Tryz.call198 (λx=>mS x) p.cV)) ?_;refine go [.N,.n] (k:=?_);exact bZ 115 [112,113,114,115] (b6 g28 _ undef) Kg28
   ·refine go [.x,.x,.x,.x] (k:=?_);exact bX 115 [112,113,114,115] (bY g28 undef _) Kg28
  refine qq (Qt.aD rfl rfl rfl) ?_;refine go [.a,.Z] (k:=?_);refine aM 4 ?_;refine rb ?_;simp only[c_,cI,br,cU,cS];grind only
 try simp only[ai]at c26
 refine go [.J,.R,.f,.N,.l,.h,.b,.N,.m] (k:=?_);apply az.cut 3
 ·intro Kg29;refine az.split 121 rfl (λg29=>?_) (λg29=>?_)
  ·have eg29:=g29
   try simp only[ai]at eg29
   refine go [.f,.l,.N,.b] (k:=?_);exact bZ 124 [122,123,124] (b6 g29 _ undef) Kg29
  ·refine go [.x,.x,.x] (k:=?_);exact bX 124 [122,123,124] (bY g29 undef _) Kg29
 refine qq (Qt.aD rfl rfl rfl) ?_;refine go [.a,.Z] (k:=?_);refine aM 4 ?_;refine rb ?_;simp only[c_,cI,br,cU,cS];grind only
end Go.Proofs.YtekcnnngjoonbaaGreat.VM

