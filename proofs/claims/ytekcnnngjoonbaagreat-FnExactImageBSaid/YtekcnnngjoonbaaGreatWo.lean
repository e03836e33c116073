/- Contracts. No conditions. -/
import Derived.Test.YtekcnnngjoonbaaGreatWm
set_option linter.all false
set_option maxHeartbeats 8000000
set_option maxRecDepth 10000
namespace Go.Proofs.YtekcnnngjoonbaaGreat.VM
open List Nat
open Go Go.RowKit Go.Proofs Go.Proofs.Tryz
theorem rO(u:aX)(hb:il u):a_ prog 140 [.g [.v (iv u.Next),.v (iv u.bp),.h aa [],.h (aa+1) [],.h (aa+2) [],.h (aa+3) [],.h (aa+4) [],.h (aa+5) [],.h (aa+6) []]] [.rt aa .ro (tr u.aP),.rt (aa+1) .ro (tr u.ag),.rt (aa+2) .ro (tr u.ao),.rt (aa+3) .ro (tr u.ak),.rt (aa+4) .ro (tr u.ay),.rt (aa+5) .ro (tr u.aN),.rt (aa+6) .ro (tr u.Out)] (λy _=>y= .v (.bool (bg u))):=by
 refine ob func140 ntmps140 ?_;refine AW.len (aa+2) [] rfl (by simp[bT]) rfl (λhl2=>?_);refine AW.len (aa+3) [] rfl (by simp[bT]) rfl (λhl3=>?_);refine AW.len (aa+4) [] rfl (by simp[bT]) rfl (λhl4=>?_);have hob:=hb.opens;refine go [.R,.B,.N,.a,.Z,.R2,.f,.l,.N,.h,.b,.m,.N] ?_;apply aB.cut 4
 ·intro Kg1;refine aB.bq 12 rfl (λg1=>?_) (λg1=>?_)
  ·refine go [.f,.l,.h,.N,.b] ?_;exact bV 16 [13,14,15,16] (bU g1 _ undef) Kg1
  ·refine go [.x,.x,.x,.x] ?_;exact bX 16 [13,14,15,16] (bY g1 undef _) Kg1
 refine qq (Qt.br rfl rfl rfl) ?_;refine go [.m,.N] ?_;apply aB.cut 4
 ·intro Kg2;refine aB.bq 18 rfl (λg2=>?_) (λg2=>?_)
  ·refine go [.f,.l,.h,.N,.b] ?_;exact bV 22 [19,20,21,22] (bU g2 _ undef) Kg2
  ·refine go [.x,.x,.x,.x] ?_;exact bX 22 [19,20,21,22] (bY g2 undef _) Kg2
 refine qq (Qt.br rfl rfl rfl) ?_;refine go [.Z] ?_;refine cd (λc3=>?_) λc3=>?_
 ·try simp only[ah]at c3
  refine go [.R,.a,.Z] ?_;refine aQ 2 ?_;refine rb ?_;simp only[bg,aS,aH,aR];grind only
 try simp only[ah]at c3
 refine jd (dq ?_);refine go [.a,.Z] ?_;refine AW.block ?_;refine AW.aL (λi:q_ (dv u) u.ao.length=>[.sl 3 (.v (iv i.k)),.rt 1 .box (T.s 9 1 λk c=>([(T.v (iv u.Next),none),(T.v (iv u.bp),none),(T.j,none),(T.j,none),(T.j,none),(T.j,none),(T.j,none),(T.j,none),(T.j,none)].getD (k*9+c) (T.j,none)).fst),.al 1 2 (.h aa []),.al 1 3 (.h (aa+1) []),.al 1 4 (.h (aa+2) []),.al 1 5 (.h (aa+3) []),.al 1 6 (.h (aa+4) []),.al 1 7 (.h (aa+5) []),.al 1 8 (.h (aa+6) []),.rt aa .ro (tr u.aP),.rt (aa+1) .ro (tr u.ag),.rt (aa+2) .ro (tr u.ao),.rt (aa+3) .ro (tr u.ak),.rt (aa+4) .ro (tr u.ay),.rt (aa+5) .ro (tr u.aN),.rt (aa+6) .ro (tr u.Out),.sl 1 (.p 1 [] 9 0 0)]) (λi=>u.ao.length-i.k) ⟨0,zero_le _,λ_ h=>absurd h (not_lt_zero _)⟩ (ws) ?_;intro i;have hle:=i.le;have hTi:((i.k:Int)-1).toNat=i.k-1:=by omega
 refine go [.R2,.m,.N,.f,.l,.h,.N,.b,.Z] ?_;refine cd (λc4=>?_) λc4=>?_
 ·try simp only[ah]at c4
  refine jd (AW.seq (AW.block (AW.seq ?_)));refine go [.D [0,1,2,3,4,5,7,8,9,10,11,12,13,14,15,16,17,18,19,20,21,22,23,24,25,26,27],.t 0,.G,.t 1,.f,.N,.t 2,.l,.t 3,.m,.t 4,.i,.N,.t 5,.G] ?_;refine a1 6 [] [5,0,4,3,2,1] rfl rfl (aE.aC rfl (by decide) call185 rfl rfl (ra u _ hb)) ?_;refine go [.N,.t 7,.n,.t 8,.m] ?_;refine aO.split 39 rfl (λg5=>?_) (λg5=>?_)
  ·refine go [.t 9,.x,.N,.t 10,.x,.t 11,.x,.t 12,.x,.N,.t 13,.x,.t 14,.x,.t 15,.x,.N,.t 16,.x,.t 17,.x,.t 18,.x,.N,.t 19,.x,.t 20,.x,.t 21,.x,.N,.t 22,.x,.t 23,.x,.t 24,.x,.N,.t 25,.x,.t 26,.x] ?_;refine tk 27 rfl (Qt.bj rfl g5) ?_;refine go [.N,.Z] ?_;refine cd (λc6=>?_) λc6=>?_
   ·try simp only[ah]at c6
    have hS:=i.stop (by omega) (show(dv u) i.k=false by simp only[dv,aI];grind only);refine go [.R,.a,.Z] ?_;refine aQ 2 ?_;refine rb ?_;simp only[bg,aS,aH,aR];grind only
   try simp only[ah]at c6
   refine go [.J,.R1,.m,.b,.N,.a,.Z] ?_;refine⟨⟨i.k+1,by omega,i.next (show(dv u) i.k=true by simp only[dv,aI];grind only)⟩,ws,?_⟩;show u.ao.length-(i.k+1)<u.ao.length-i.k;omega
  refine go [.t 9,.m,.t 10,.b,.N,.t 11,.m] ?_;refine aO.split 42 rfl (λg7=>?_) (λg7=>?_)
  ·refine go [.t 12,.f,.t 13,.l,.N,.t 14,.m,.t 15,.b,.t 16,.i,.N,.t 17,.f,.t 18,.l,.t 19,.f,.N,.t 20,.l,.t 21,.m,.t 22,.i,.N,.t 23,.f,.t 24,.l,.t 25,.b,.N] ?_;refine tg 26 rfl (nF g5) (Qt.bj rfl g7) ?_;refine tk 27 rfl (Qt.bd rfl g5) ?_;refine go [.Z] ?_;refine cd (λc8=>?_) λc8=>?_
   ·try simp only[ah]at c8
    have hS:=i.stop (by omega) (show(dv u) i.k=false by simp only[dv,aI];grind only);refine go [.R,.a,.Z] ?_;refine aQ 2 ?_;refine rb ?_;simp only[bg,aS,aH,aR];grind only
   try simp only[ah]at c8
   refine go [.J,.R1,.m,.N,.b,.a,.Z] ?_;refine⟨⟨i.k+1,by omega,i.next (show(dv u) i.k=true by simp only[dv,aI];grind only)⟩,ws,?_⟩;show u.ao.length-(i.k+1)<u.ao.length-i.k;omega
  refine go [.t 12,.x,.N,.t 13,.x,.t 14,.x,.t 15,.x,.N,.t 16,.x,.t 17,.x,.t 18,.x,.N,.t 19,.x,.t 20,.x,.t 21,.x,.N,.t 22,.x,.t 23,.x,.t 24,.x,.N,.t 25,.x] ?_;refine tg 26 rfl (nF g5) (Qt.bd rfl g7) ?_;refine tk 27 rfl (Qt.bd rfl g5) ?_;refine go [.N,.Z] ?_;refine cd (λc9=>?_) λc9=>?_
  ·try simp only[ah]at c9
   have hS:=i.stop (by omega) (show(dv u) i.k=false by simp only[dv,aI];grind only);refine go [.R,.a,.Z] ?_;refine aQ 2 ?_;refine rb ?_;simp only[bg,aS,aH,aR];grind only
  try simp only[ah]at c9
  refine go [.J,.R1,.m,.b,.N,.a,.Z] ?_;refine⟨⟨i.k+1,by omega,i.next (show(dv u) i.k=true by simp only[dv,aI];grind only)⟩,ws,?_⟩;show u.ao.length-(i.k+1)<u.ao.length-i.k;omega
 try simp only[ah]at c4
 have hA:=i.full (by omega);refine AW.exit ?_;dsimp only[aD,au,reduceIte];refine go [.R2,.a,.Z] ?_;refine AW.block ?_;refine AW.aL (λj:q_ (aM u) u.ak.length=>[.sl 4 (.v (iv j.k)),.rt 1 .box (T.s 9 1 λk c=>([(T.v (iv u.Next),none),(T.v (iv u.bp),none),(T.j,none),(T.j,none),(T.j,none),(T.j,none),(T.j,none),(T.j,none),(T.j,none)].getD (k*9+c) (T.j,none)).fst),.al 1 2 (.h aa []),.al 1 3 (.h (aa+1) []),.al 1 4 (.h (aa+2) []),.al 1 5 (.h (aa+3) []),.al 1 6 (.h (aa+4) []),.al 1 7 (.h (aa+5) []),.al 1 8 (.h (aa+6) []),.rt aa .ro (tr u.aP),.rt (aa+1) .ro (tr u.ag),.rt (aa+2) .ro (tr u.ao),.rt (aa+3) .ro (tr u.ak),.rt (aa+4) .ro (tr u.ay),.rt (aa+5) .ro (tr u.aN),.rt (aa+6) .ro (tr u.Out),.sl 1 (.p 1 [] 9 0 0)]) (λj=>u.ak.length-j.k) ⟨0,zero_le _,λ_ h=>absurd h (not_lt_zero _)⟩ (ws) ?_;intro j;have hlej:=j.le;have hTj:((j.k:Int)-1).toNat=j.k-1:=by omega
 have hEn:=yh u (u.ak.getD j.k En.ab).Id;have hE3:=mC u (u.ak.getD j.k En.ab).Id 3 u.ao.length;have hE4:=mC u (u.ak.getD j.k En.ab).Id 4 u.ao.length;refine go [.R2,.m,.N,.f,.l,.h,.N,.b,.Z] ?_;refine cd (λc10=>?_) λc10=>?_
 ·try simp only[ah]at c10
  refine jd (AW.seq (AW.block (sr ?_)));refine go [.f,.l,.N,.m,.i,.G,.N,.A,.N,.s,.Z] ?_;refine AW.seq ?_;refine go [.D [0,1,3,4,5,6,7,8,9,10,11,12,14,15,16,17,18,19,20,21,22,23,24,25,26,27,28,29,30,31,32,33,34,35,37,38,39,41,42,43],.t 0,.f,.N,.t 1,.l] ?_;refine a1 2 [] [1,0] rfl rfl (aE.aC rfl (by decide) call135 rfl rfl (cD _ _ _)) ?_;refine go [.N,.t 3,.n,.t 4,.m] ?_;refine aO.split 75 rfl (λg11=>?_) (λg11=>?_)
  ·refine go [.t 5,.x,.N,.t 6,.x,.t 7,.x,.t 8,.x,.N] ?_;refine tk 9 rfl (Qt.bj rfl g11) ?_;refine go [.t 10,.m] ?_;refine aO.split 81 rfl (λg12=>?_) (λg12=>?_)
   ·refine go [.t 11,.x,.N,.t 12,.x,.O 13 [] [12,10,11,9,4,8,3,2,7,1,6,0,5],.x,.N,.t 14,.x] ?_;refine tk 15 rfl (Qt.bj rfl g12) ?_;refine go [.t 16,.m,.N] ?_;refine aO.split 87 rfl (λg13=>?_) (λg13=>?_)
    ·refine go [.t 17,.x,.t 18,.x,.t 19,.x,.N,.t 20,.x,.t 21,.x,.t 22,.x,.N,.t 23,.x,.t 24,.x,.t 25,.x,.N,.t 26,.x,.t 27,.x,.t 28,.x,.N,.t 29,.x,.t 30,.x] ?_;refine tk 31 rfl (Qt.bj rfl g13) ?_;refine go [.N,.t 32,.m] ?_;refine aO.split 103 rfl (λg14=>?_) (λg14=>?_)
     ·refine go [.t 33,.x,.t 34,.x,.N,.t 35,.x,.t 37,.x,.t 38,.x,.N,.t 39,.x,.O 36 [37,38,39] [35,33,32,34,31,19,30,16,18,29,15,13,17,28,26,14,10,12,27,25,9,4,11,24,8,3,2,23,21,7,1,22,20,6,0,5],.x,.N,.g,.x,.g,.x,.g,.x,.N,.O 40 [] [39,37,36,32,38,35,33,31,19,34,30,16,18,29,15,13,17,28,26,14,10,12,27,25,9,4,11,24,8,3,2,23,21,7,1,22,20,6,0,5],.x,.N,.t 41,.x,.t 42,.x] ?_;refine tk 43 rfl (Qt.bj rfl g14) ?_;refine go [.N,.Z] ?_;refine cd (λc15=>?_) λc15=>?_
      ·try simp only[ah]at c15
       have hS:=j.stop (by omega) (show(aM u) j.k=false by simp only[aM,aI,aY];grind only);refine go [.R,.a,.Z] ?_;refine aQ 2 ?_;refine rb ?_;simp only[bg,aS,aH,aR];grind only
      try simp only[ah]at c15
      refine go [.J,.R1,.m,.b,.N,.a,.Z] ?_;refine⟨⟨j.k+1,by omega,j.next (show(aM u) j.k=true by simp only[aM,aI,aY];grind only)⟩,ws,?_⟩;show u.ak.length-(j.k+1)<u.ak.length-j.k;omega
     refine go [.t 33,.G,.t 34,.f,.N,.t 35,.l,.t 37,.G,.t 38,.f,.N,.t 39,.l] ?_;refine a1 36 [37,38,39] [35,33,32,34,31,19,30,16,18,29,15,13,17,28,26,14,10,12,27,25,9,4,11,24,8,3,2,23,21,7,1,22,20,6,0,5] rfl (nF g14) (aE.aC rfl (by decide) call186 rfl rfl (bH u _ _ hb)) ?_;refine go [.N,.g,.G,.g,.f,.g,.l,.N] ?_;refine a1 40 [] [39,37,36,32,38,35,33,31,19,34,30,16,18,29,15,13,17,28,26,14,10,12,27,25,9,4,11,24,8,3,2,23,21,7,1,22,20,6,0,5] rfl (nF g14) (aE.aC rfl (by decide) call186 rfl rfl (bH u _ _ hb)) ?_;refine go [.N,.t 41,.b,.t 42,.b] ?_;refine tk 43 rfl (Qt.bd rfl g14) ?_;refine go [.N,.Z] ?_;refine cd (λc16=>?_) λc16=>?_
     ·try simp only[ah]at c16
      have hS:=j.stop (by omega) (show(aM u) j.k=false by simp only[aM,aI,aY];grind only);refine go [.R,.a,.Z] ?_;refine aQ 2 ?_;refine rb ?_;simp only[bg,aS,aH,aR];grind only
     try simp only[ah]at c16
     refine go [.J,.R1,.m,.b,.N,.a,.Z] ?_;refine⟨⟨j.k+1,by omega,j.next (show(aM u) j.k=true by simp only[aM,aI,aY];grind only)⟩,ws,?_⟩;show u.ak.length-(j.k+1)<u.ak.length-j.k;omega
    refine go [.t 17,.m,.t 18,.b,.N,.t 19,.m] ?_;refine aO.split 90 rfl (λg17=>?_) (λg17=>?_)
    ·refine go [.t 20,.f,.t 21,.l,.N,.t 22,.m,.t 23,.b,.t 24,.i,.N,.t 25,.f,.t 26,.l,.t 27,.f,.N,.t 28,.l,.t 29,.b] ?_;refine tg 30 rfl (nF g13) (Qt.bj rfl g17) ?_;refine go [.N] ?_;refine tk 31 rfl (Qt.bd rfl g13) ?_;refine go [.t 32,.m] ?_;refine aO.split 103 rfl (λg18=>?_) (λg18=>?_)
     ·refine go [.t 33,.x,.N,.t 34,.x,.t 35,.x,.t 37,.x,.N,.t 38,.x,.t 39,.x,.O 36 [37,38,39] [35,33,32,34,31,19,30,16,18,29,15,13,17,28,26,14,10,12,27,25,9,4,11,24,8,3,2,23,21,7,1,22,20,6,0,5],.x,.N,.g,.x,.g,.x,.g,.x,.N,.O 40 [] [39,37,36,32,38,35,33,31,19,34,30,16,18,29,15,13,17,28,26,14,10,12,27,25,9,4,11,24,8,3,2,23,21,7,1,22,20,6,0,5],.x,.N,.t 41,.x,.t 42,.x] ?_;refine tk 43 rfl (Qt.bj rfl g18) ?_;refine go [.N,.Z] ?_;refine cd (λc19=>?_) λc19=>?_
      ·try simp only[ah]at c19
       have hS:=j.stop (by omega) (show(aM u) j.k=false by simp only[aM,aI,aY];grind only);refine go [.R,.a,.Z] ?_;refine aQ 2 ?_;refine rb ?_;simp only[bg,aS,aH,aR];grind only
      try simp only[ah]at c19
      refine go [.J,.R1,.m,.b,.N,.a,.Z] ?_;refine⟨⟨j.k+1,by omega,j.next (show(aM u) j.k=true by simp only[aM,aI,aY];grind only)⟩,ws,?_⟩;show u.ak.length-(j.k+1)<u.ak.length-j.k;omega
     refine go [.t 33,.G,.t 34,.f,.N,.t 35,.l,.t 37,.G,.t 38,.f,.N,.t 39,.l] ?_;refine a1 36 [37,38,39] [35,33,32,34,31,19,30,16,18,29,15,13,17,28,26,14,10,12,27,25,9,4,11,24,8,3,2,23,21,7,1,22,20,6,0,5] rfl (nF g18) (aE.aC rfl (by decide) call186 rfl rfl (bH u _ _ hb)) ?_;refine go [.N,.g,.G,.g,.f,.g,.l,.N] ?_;refine a1 40 [] [39,37,36,32,38,35,33,31,19,34,30,16,18,29,15,13,17,28,26,14,10,12,27,25,9,4,11,24,8,3,2,23,21,7,1,22,20,6,0,5] rfl (nF g18) (aE.aC rfl (by decide) call186 rfl rfl (bH u _ _ hb)) ?_;refine go [.N,.t 41,.b,.t 42,.b] ?_;refine tk 43 rfl (Qt.bd rfl g18) ?_;refine go [.N,.Z] ?_;refine cd (λc20=>?_) λc20=>?_
     ·try simp only[ah]at c20
      have hS:=j.stop (by omega) (show(aM u) j.k=false by simp only[aM,aI,aY];grind only);refine go [.R,.a,.Z] ?_;refine aQ 2 ?_;refine rb ?_;simp only[bg,aS,aH,aR];grind only
     try simp only[ah]at c20
     refine go [.J,.R1,.m,.b,.N,.a,.Z] ?_;refine⟨⟨j.k+1,by omega,j.next (show(aM u) j.k=true by simp only[aM,aI,aY];grind only)⟩,ws,?_⟩;show u.ak.length-(j.k+1)<u.ak.length-j.k;omega
    refine go [.t 20,.x,.t 21,.x,.N,.t 22,.x,.t 23,.x,.t 24,.x,.N,.t 25,.x,.t 26,.x,.t 27,.x,.N,.t 28,.x,.t 29,.x] ?_;refine tg 30 rfl (nF g13) (Qt.bd rfl g17) ?_;refine go [.N] ?_;refine tk 31 rfl (Qt.bd rfl g13) ?_;refine go [.t 32,.m] ?_;refine aO.split 103 rfl (λg21=>?_) (λg21=>?_)
    ·refine go [.t 33,.x,.N,.t 34,.x,.t 35,.x,.t 37,.x,.N,.t 38,.x,.t 39,.x,.O 36 [37,38,39] [35,33,32,34,31,19,30,16,18,29,15,13,17,28,26,14,10,12,27,25,9,4,11,24,8,3,2,23,21,7,1,22,20,6,0,5],.x,.N,.g,.x,.g,.x,.g,.x,.N,.O 40 [] [39,37,36,32,38,35,33,31,19,34,30,16,18,29,15,13,17,28,26,14,10,12,27,25,9,4,11,24,8,3,2,23,21,7,1,22,20,6,0,5],.x,.N,.t 41,.x,.t 42,.x] ?_;refine tk 43 rfl (Qt.bj rfl g21) ?_;refine go [.N,.Z] ?_;refine cd (λc22=>?_) λc22=>?_
     ·try simp only[ah]at c22
      have hS:=j.stop (by omega) (show(aM u) j.k=false by simp only[aM,aI,aY];grind only);refine go [.R,.a,.Z] ?_;refine aQ 2 ?_;refine rb ?_;simp only[bg,aS,aH,aR];grind only
     try simp only[ah]at c22
     refine go [.J,.R1,.m,.b,.N,.a,.Z] ?_;refine⟨⟨j.k+1,by omega,j.next (show(aM u) j.k=true by simp only[aM,aI,aY];grind only)⟩,ws,?_⟩;show u.ak.length-(j.k+1)<u.ak.length-j.k;omega
    refine go [.t 33,.G,.t 34,.f,.N,.t 35,.l,.t 37,.G,.t 38,.f,.N,.t 39,.l] ?_;refine a1 36 [37,38,39] [35,33,32,34,31,19,30,16,18,29,15,13,17,28,26,14,10,12,27,25,9,4,11,24,8,3,2,23,21,7,1,22,20,6,0,5] rfl (nF g21) (aE.aC rfl (by decide) call186 rfl rfl (bH u _ _ hb)) ?_;refine go [.N,.g,.G,.g,.f,.g,.l,.N] ?_;refine a1 40 [] [39,37,36,32,38,35,33,31,19,34,30,16,18,29,15,13,17,28,26,14,10,12,27,25,9,4,11,24,8,3,2,23,21,7,1,22,20,6,0,5] rfl (nF g21) (aE.aC rfl (by decide) call186 rfl rfl (bH u _ _ hb)) ?_;refine go [.N,.t 41,.b,.t 42,.b] ?_;refine tk 43 rfl (Qt.bd rfl g21) ?_;refine go [.N,.Z] ?_;refine cd (λc23=>?_) λc23=>?_
    ·try simp only[ah]at c23
     have hS:=j.stop (by omega) (show(aM u) j.k=false by simp only[aM,aI,aY];grind only);refine go [.R,.a,.Z] ?_;refine aQ 2 ?_;refine rb ?_;simp only[bg,aS,aH,aR];grind only
    try simp only[ah]at c23
    refine go [.J,.R1,.m,.b,.N,.a,.Z] ?_;refine⟨⟨j.k+1,by omega,j.next (show(aM u) j.k=true by simp only[aM,aI,aY];grind only)⟩,ws,?_⟩;show u.ak.length-(j.k+1)<u.ak.length-j.k;omega
   refine go [.t 11,.f,.t 12,.l,.N] ?_;refine a1 13 [] [12,10,11,9,4,8,3,2,7,1,6,0,5] rfl (nF g12) (aE.aC rfl (by decide) call137 rfl rfl (eS _)) ?_;refine go [.N,.t 14,.n] ?_;refine tk 15 rfl (Qt.bd rfl g12) ?_;refine go [.t 16,.m,.N] ?_;refine aO.split 87 rfl (λg24=>?_) (λg24=>?_)
   ·refine go [.t 17,.x,.t 18,.x,.t 19,.x,.N,.t 20,.x,.t 21,.x,.t 22,.x,.N,.t 23,.x,.t 24,.x,.t 25,.x,.N,.t 26,.x,.t 27,.x,.t 28,.x,.N,.t 29,.x,.t 30,.x] ?_;refine tk 31 rfl (Qt.bj rfl g24) ?_;refine go [.N,.t 32,.m] ?_;refine aO.split 103 rfl (λg25=>?_) (λg25=>?_)
    ·refine go [.t 33,.x,.t 34,.x,.N,.t 35,.x,.t 37,.x,.t 38,.x,.N,.t 39,.x,.O 36 [37,38,39] [35,33,32,34,31,19,30,16,18,29,15,13,17,28,26,14,10,12,27,25,9,4,11,24,8,3,2,23,21,7,1,22,20,6,0,5],.x,.N,.g,.x,.g,.x,.g,.x,.N,.O 40 [] [39,37,36,32,38,35,33,31,19,34,30,16,18,29,15,13,17,28,26,14,10,12,27,25,9,4,11,24,8,3,2,23,21,7,1,22,20,6,0,5],.x,.N,.t 41,.x,.t 42,.x] ?_;refine tk 43 rfl (Qt.bj rfl g25) ?_;refine go [.N,.Z] ?_;refine cd (λc26=>?_) λc26=>?_
     ·try simp only[ah]at c26
      have hS:=j.stop (by omega) (show(aM u) j.k=false by simp only[aM,aI,aY];grind only);refine go [.R,.a,.Z] ?_;refine aQ 2 ?_;refine rb ?_;simp only[bg,aS,aH,aR];grind only
     try simp only[ah]at c26
     refine go [.J,.R1,.m,.b,.N,.a,.Z] ?_;refine⟨⟨j.k+1,by omega,j.next (show(aM u) j.k=true by simp only[aM,aI,aY];grind only)⟩,ws,?_⟩;show u.ak.length-(j.k+1)<u.ak.length-j.k;omega
    refine go [.t 33,.G,.t 34,.f,.N,.t 35,.l,.t 37,.G,.t 38,.f,.N,.t 39,.l] ?_;refine a1 36 [37,38,39] [35,33,32,34,31,19,30,16,18,29,15,13,17,28,26,14,10,12,27,25,9,4,11,24,8,3,2,23,21,7,1,22,20,6,0,5] rfl (nF g25) (aE.aC rfl (by decide) call186 rfl rfl (bH u _ _ hb)) ?_;refine go [.N,.g,.G,.g,.f,.g,.l,.N] ?_;refine a1 40 [] [39,37,36,32,38,35,33,31,19,34,30,16,18,29,15,13,17,28,26,14,10,12,27,25,9,4,11,24,8,3,2,23,21,7,1,22,20,6,0,5] rfl (nF g25) (aE.aC rfl (by decide) call186 rfl rfl (bH u _ _ hb)) ?_;refine go [.N,.t 41,.b,.t 42,.b] ?_;refine tk 43 rfl (Qt.bd rfl g25) ?_;refine go [.N,.Z] ?_;refine cd (λc27=>?_) λc27=>?_
    ·try simp only[ah]at c27
     have hS:=j.stop (by omega) (show(aM u) j.k=false by simp only[aM,aI,aY];grind only);refine go [.R,.a,.Z] ?_;refine aQ 2 ?_;refine rb ?_;simp only[bg,aS,aH,aR];grind only
    try simp only[ah]at c27
    refine go [.J,.R1,.m,.b,.N,.a,.Z] ?_;refine⟨⟨j.k+1,by omega,j.next (show(aM u) j.k=true by simp only[aM,aI,aY];grind only)⟩,ws,?_⟩;show u.ak.length-(j.k+1)<u.ak.length-j.k;omega
   refine go [.t 17,.m,.t 18,.b,.N,.t 19,.m] ?_;refine aO.split 90 rfl (λg28=>?_) (λg28=>?_)
   ·refine go [.t 20,.f,.t 21,.l,.N,.t 22,.m,.t 23,.b,.t 24,.i,.N,.t 25,.f,.t 26,.l,.t 27,.f,.N,.t 28,.l,.t 29,.b] ?_;refine tg 30 rfl (nF g24) (Qt.bj rfl g28) ?_;refine go [.N] ?_;refine tk 31 rfl (Qt.bd rfl g24) ?_;refine go [.t 32,.m] ?_;refine aO.split 103 rfl (λg29=>?_) (λg29=>?_)
    ·refine go [.t 33,.x,.N,.t 34,.x,.t 35,.x,.t 37,.x,.N,.t 38,.x,.t 39,.x,.O 36 [37,38,39] [35,33,32,34,31,19,30,16,18,29,15,13,17,28,26,14,10,12,27,25,9,4,11,24,8,3,2,23,21,7,1,22,20,6,0,5],.x,.N,.g,.x,.g,.x,.g,.x,.N,.O 40 [] [39,37,36,32,38,35,33,31,19,34,30,16,18,29,15,13,17,28,26,14,10,12,27,25,9,4,11,24,8,3,2,23,21,7,1,22,20,6,0,5],.x,.N,.t 41,.x,.t 42,.x] ?_;refine tk 43 rfl (Qt.bj rfl g29) ?_;refine go [.N,.Z] ?_;refine cd (λc30=>?_) λc30=>?_
     ·try simp only[ah]at c30
      have hS:=j.stop (by omega) (show(aM u) j.k=false by simp only[aM,aI,aY];grind only);refine go [.R,.a,.Z] ?_;refine aQ 2 ?_;refine rb ?_;simp only[bg,aS,aH,aR];grind only
     try simp only[ah]at c30
     refine go [.J,.R1,.m,.b,.N,.a,.Z] ?_;refine⟨⟨j.k+1,by omega,j.next (show(aM u) j.k=true by simp only[aM,aI,aY];grind only)⟩,ws,?_⟩;show u.ak.length-(j.k+1)<u.ak.length-j.k;omega
    refine go [.t 33,.G,.t 34,.f,.N,.t 35,.l,.t 37,.G,.t 38,.f,.N,.t 39,.l] ?_;refine a1 36 [37,38,39] [35,33,32,34,31,19,30,16,18,29,15,13,17,28,26,14,10,12,27,25,9,4,11,24,8,3,2,23,21,7,1,22,20,6,0,5] rfl (nF g29) (aE.aC rfl (by decide) call186 rfl rfl (bH u _ _ hb)) ?_;refine go [.N,.g,.G,.g,.f,.g,.l,.N] ?_;refine a1 40 [] [39,37,36,32,38,35,33,31,19,34,30,16,18,29,15,13,17,28,26,14,10,12,27,25,9,4,11,24,8,3,2,23,21,7,1,22,20,6,0,5] rfl (nF g29) (aE.aC rfl (by decide) call186 rfl rfl (bH u _ _ hb)) ?_;refine go [.N,.t 41,.b,.t 42,.b] ?_;refine tk 43 rfl (Qt.bd rfl g29) ?_;refine go [.N,.Z] ?_;refine cd (λc31=>?_) λc31=>?_
    ·try simp only[ah]at c31
     have hS:=j.stop (by omega) (show(aM u) j.k=false by simp only[aM,aI,aY];grind only);refine go [.R,.a,.Z] ?_;refine aQ 2 ?_;refine rb ?_;simp only[bg,aS,aH,aR];grind only
    try simp only[ah]at c31
    refine go [.J,.R1,.m,.b,.N,.a,.Z] ?_;refine⟨⟨j.k+1,by omega,j.next (show(aM u) j.k=true by simp only[aM,aI,aY];grind only)⟩,ws,?_⟩;show u.ak.length-(j.k+1)<u.ak.length-j.k;omega
   refine go [.t 20,.x,.t 21,.x,.N,.t 22,.x,.t 23,.x,.t 24,.x,.N,.t 25,.x,.t 26,.x,.t 27,.x,.N,.t 28,.x,.t 29,.x] ?_;refine tg 30 rfl (nF g24) (Qt.bd rfl g28) ?_;refine go [.N] ?_;refine tk 31 rfl (Qt.bd rfl g24) ?_;refine go [.t 32,.m] ?_;refine aO.split 103 rfl (λg32=>?_) (λg32=>?_)
   ·refine go [.t 33,.x,.N,.t 34,.x,.t 35,.x,.t 37,.x,.N,.t 38,.x,.t 39,.x,.O 36 [37,38,39] [35,33,32,34,31,19,30,16,18,29,15,13,17,28,26,14,10,12,27,25,9,4,11,24,8,3,2,23,21,7,1,22,20,6,0,5],.x,.N,.g,.x,.g,.x,.g,.x,.N,.O 40 [] [39,37,36,32,38,35,33,31,19,34,30,16,18,29,15,13,17,28,26,14,10,12,27,25,9,4,11,24,8,3,2,23,21,7,1,22,20,6,0,5],.x,.N,.t 41,.x,.t 42,.x] ?_;refine tk 43 rfl (Qt.bj rfl g32) ?_;refine go [.N,.Z] ?_;refine cd (λc33=>?_) λc33=>?_
    ·try simp only[ah]at c33
     have hS:=j.stop (by omega) (show(aM u) j.k=false by simp only[aM,aI,aY];grind only);refine go [.R,.a,.Z] ?_;refine aQ 2 ?_;refine rb ?_;simp only[bg,aS,aH,aR];grind only
    try simp only[ah]at c33
    refine go [.J,.R1,.m,.b,.N,.a,.Z] ?_;refine⟨⟨j.k+1,by omega,j.next (show(aM u) j.k=true by simp only[aM,aI,aY];grind only)⟩,ws,?_⟩;show u.ak.length-(j.k+1)<u.ak.length-j.k;omega
   refine go [.t 33,.G,.t 34,.f,.N,.t 35,.l,.t 37,.G,.t 38,.f,.N,.t 39,.l] ?_;refine a1 36 [37,38,39] [35,33,32,34,31,19,30,16,18,29,15,13,17,28,26,14,10,12,27,25,9,4,11,24,8,3,2,23,21,7,1,22,20,6,0,5] rfl (nF g32) (aE.aC rfl (by decide) call186 rfl rfl (bH u _ _ hb)) ?_;refine go [.N,.g,.G,.g,.f,.g,.l,.N] ?_;refine a1 40 [] [39,37,36,32,38,35,33,31,19,34,30,16,18,29,15,13,17,28,26,14,10,12,27,25,9,4,11,24,8,3,2,23,21,7,1,22,20,6,0,5] rfl (nF g32) (aE.aC rfl (by decide) call186 rfl rfl (bH u _ _ hb)) ?_;refine go [.N,.t 41,.b,.t 42,.b] ?_;refine tk 43 rfl (Qt.bd rfl g32) ?_;refine go [.N,.Z] ?_;refine cd (λc34=>?_) λc34=>?_
   ·try simp only[ah]at c34
    have hS:=j.stop (by omega) (show(aM u) j.k=false by simp only[aM,aI,aY];grind only);refine go [.R,.a,.Z] ?_;refine aQ 2 ?_;refine rb ?_;simp only[bg,aS,aH,aR];grind only
   try simp only[ah]at c34
   refine go [.J,.R1,.m,.b,.N,.a,.Z] ?_;refine⟨⟨j.k+1,by omega,j.next (show(aM u) j.k=true by simp only[aM,aI,aY];grind only)⟩,ws,?_⟩;show u.ak.length-(j.k+1)<u.ak.length-j.k;omega
  refine go [.t 5,.f,.t 6,.l,.N,.t 7,.h,.t 8,.b] ?_;refine tk 9 rfl (Qt.bd rfl g11) ?_;refine go [.N,.t 10,.m] ?_;refine aO.split 81 rfl (λg35=>?_) (λg35=>?_)
  ·refine go [.t 11,.x,.t 12,.x,.N,.O 13 [] [12,10,11,9,4,8,3,2,7,1,6,0,5],.x,.N,.t 14,.x] ?_;refine tk 15 rfl (Qt.bj rfl g35) ?_;refine go [.t 16,.m,.N] ?_;refine aO.split 87 rfl (λg36=>?_) (λg36=>?_)
   ·refine go [.t 17,.x,.t 18,.x,.t 19,.x,.N,.t 20,.x,.t 21,.x,.t 22,.x,.N,.t 23,.x,.t 24,.x,.t 25,.x,.N,.t 26,.x,.t 27,.x,.t 28,.x,.N,.t 29,.x,.t 30,.x] ?_;refine tk 31 rfl (Qt.bj rfl g36) ?_;refine go [.N,.t 32,.m] ?_;refine aO.split 103 rfl (λg37=>?_) (λg37=>?_)
    ·refine go [.t 33,.x,.t 34,.x,.N,.t 35,.x,.t 37,.x,.t 38,.x,.N,.t 39,.x,.O 36 [37,38,39] [35,33,32,34,31,19,30,16,18,29,15,13,17,28,26,14,10,12,27,25,9,4,11,24,8,3,2,23,21,7,1,22,20,6,0,5],.x,.N,.g,.x,.g,.x,.g,.x,.N,.O 40 [] [39,37,36,32,38,35,33,31,19,34,30,16,18,29,15,13,17,28,26,14,10,12,27,25,9,4,11,24,8,3,2,23,21,7,1,22,20,6,0,5],.x,.N,.t 41,.x,.t 42,.x] ?_;refine tk 43 rfl (Qt.bj rfl g37) ?_;refine go [.N,.Z] ?_;refine cd (λc38=>?_) λc38=>?_
     ·try simp only[ah]at c38
      have hS:=j.stop (by omega) (show(aM u) j.k=false by simp only[aM,aI,aY];grind only);refine go [.R,.a,.Z] ?_;refine aQ 2 ?_;refine rb ?_;simp only[bg,aS,aH,aR];grind only
     try simp only[ah]at c38
     refine go [.J,.R1,.m,.b,.N,.a,.Z] ?_;refine⟨⟨j.k+1,by omega,j.next (show(aM u) j.k=true by simp only[aM,aI,aY];grind only)⟩,ws,?_⟩;show u.ak.length-(j.k+1)<u.ak.length-j.k;omega
    refine go [.t 33,.G,.t 34,.f,.N,.t 35,.l,.t 37,.G,.t 38,.f,.N,.t 39,.l] ?_;refine a1 36 [37,38,39] [35,33,32,34,31,19,30,16,18,29,15,13,17,28,26,14,10,12,27,25,9,4,11,24,8,3,2,23,21,7,1,22,20,6,0,5] rfl (nF g37) (aE.aC rfl (by decide) call186 rfl rfl (bH u _ _ hb)) ?_;refine go [.N,.g,.G,.g,.f,.g,.l,.N] ?_;refine a1 40 [] [39,37,36,32,38,35,33,31,19,34,30,16,18,29,15,13,17,28,26,14,10,12,27,25,9,4,11,24,8,3,2,23,21,7,1,22,20,6,0,5] rfl (nF g37) (aE.aC rfl (by decide) call186 rfl rfl (bH u _ _ hb)) ?_;refine go [.N,.t 41,.b,.t 42,.b] ?_;refine tk 43 rfl (Qt.bd rfl g37) ?_;refine go [.N,.Z] ?_;refine cd (λc39=>?_) λc39=>?_
    ·try simp only[ah]at c39
     have hS:=j.stop (by omega) (show(aM u) j.k=false by simp only[aM,aI,aY];grind only);refine go [.R,.a,.Z] ?_;refine aQ 2 ?_;refine rb ?_;simp only[bg,aS,aH,aR];grind only
    try simp only[ah]at c39
    refine go [.J,.R1,.m,.b,.N,.a,.Z] ?_;refine⟨⟨j.k+1,by omega,j.next (show(aM u) j.k=true by simp only[aM,aI,aY];grind only)⟩,ws,?_⟩;show u.ak.length-(j.k+1)<u.ak.length-j.k;omega
   refine go [.t 17,.m,.t 18,.b,.N,.t 19,.m] ?_;refine aO.split 90 rfl (λg40=>?_) (λg40=>?_)
   ·refine go [.t 20,.f,.t 21,.l,.N,.t 22,.m,.t 23,.b,.t 24,.i,.N,.t 25,.f,.t 26,.l,.t 27,.f,.N,.t 28,.l,.t 29,.b] ?_;refine tg 30 rfl (nF g36) (Qt.bj rfl g40) ?_;refine go [.N] ?_;refine tk 31 rfl (Qt.bd rfl g36) ?_;refine go [.t 32,.m] ?_;refine aO.split 103 rfl (λg41=>?_) (λg41=>?_)
    ·refine go [.t 33,.x,.N,.t 34,.x,.t 35,.x,.t 37,.x,.N,.t 38,.x,.t 39,.x,.O 36 [37,38,39] [35,33,32,34,31,19,30,16,18,29,15,13,17,28,26,14,10,12,27,25,9,4,11,24,8,3,2,23,21,7,1,22,20,6,0,5],.x,.N,.g,.x,.g,.x,.g,.x,.N,.O 40 [] [39,37,36,32,38,35,33,31,19,34,30,16,18,29,15,13,17,28,26,14,10,12,27,25,9,4,11,24,8,3,2,23,21,7,1,22,20,6,0,5],.x,.N,.t 41,.x,.t 42,.x] ?_;refine tk 43 rfl (Qt.bj rfl g41) ?_;refine go [.N,.Z] ?_;refine cd (λc42=>?_) λc42=>?_
     ·try simp only[ah]at c42
      have hS:=j.stop (by omega) (show(aM u) j.k=false by simp only[aM,aI,aY];grind only);refine go [.R,.a,.Z] ?_;refine aQ 2 ?_;refine rb ?_;simp only[bg,aS,aH,aR];grind only
     try simp only[ah]at c42
     refine go [.J,.R1,.m,.b,.N,.a,.Z] ?_;refine⟨⟨j.k+1,by omega,j.next (show(aM u) j.k=true by simp only[aM,aI,aY];grind only)⟩,ws,?_⟩;show u.ak.length-(j.k+1)<u.ak.length-j.k;omega
    refine go [.t 33,.G,.t 34,.f,.N,.t 35,.l,.t 37,.G,.t 38,.f,.N,.t 39,.l] ?_;refine a1 36 [37,38,39] [35,33,32,34,31,19,30,16,18,29,15,13,17,28,26,14,10,12,27,25,9,4,11,24,8,3,2,23,21,7,1,22,20,6,0,5] rfl (nF g41) (aE.aC rfl (by decide) call186 rfl rfl (bH u _ _ hb)) ?_;refine go [.N,.g,.G,.g,.f,.g,.l,.N] ?_;refine a1 40 [] [39,37,36,32,38,35,33,31,19,34,30,16,18,29,15,13,17,28,26,14,10,12,27,25,9,4,11,24,8,3,2,23,21,7,1,22,20,6,0,5] rfl (nF g41) (aE.aC rfl (by decide) call186 rfl rfl (bH u _ _ hb)) ?_;refine go [.N,.t 41,.b,.t 42,.b] ?_;refine tk 43 rfl (Qt.bd rfl g41) ?_;refine go [.N,.Z] ?_;refine cd (λc43=>?_) λc43=>?_
    ·try simp only[ah]at c43
     have hS:=j.stop (by omega) (show(aM u) j.k=false by simp only[aM,aI,aY];grind only);refine go [.R,.a,.Z] ?_;refine aQ 2 ?_;refine rb ?_;simp only[bg,aS,aH,aR];grind only
    try simp only[ah]at c43
    refine go [.J,.R1,.m,.b,.N,.a,.Z] ?_;refine⟨⟨j.k+1,by omega,j.next (show(aM u) j.k=true by simp only[aM,aI,aY];grind only)⟩,ws,?_⟩;show u.ak.length-(j.k+1)<u.ak.length-j.k;omega
   refine go [.t 20,.x,.t 21,.x,.N,.t 22,.x,.t 23,.x,.t 24,.x,.N,.t 25,.x,.t 26,.x,.t 27,.x,.N,.t 28,.x,.t 29,.x] ?_;refine tg 30 rfl (nF g36) (Qt.bd rfl g40) ?_;refine go [.N] ?_;refine tk 31 rfl (Qt.bd rfl g36) ?_;refine go [.t 32,.m] ?_;refine aO.split 103 rfl (λg44=>?_) (λg44=>?_)
   ·refine go [.t 33,.x,.N,.t 34,.x,.t 35,.x,.t 37,.x,.N,.t 38,.x,.t 39,.x,.O 36 [37,38,39] [35,33,32,34,31,19,30,16,18,29,15,13,17,28,26,14,10,12,27,25,9,4,11,24,8,3,2,23,21,7,1,22,20,6,0,5],.x,.N,.g,.x,.g,.x,.g,.x,.N,.O 40 [] [39,37,36,32,38,35,33,31,19,34,30,16,18,29,15,13,17,28,26,14,10,12,27,25,9,4,11,24,8,3,2,23,21,7,1,22,20,6,0,5],.x,.N,.t 41,.x,.t 42,.x] ?_;refine tk 43 rfl (Qt.bj rfl g44) ?_;refine go [.N,.Z] ?_;refine cd (λc45=>?_) λc45=>?_
    ·try simp only[ah]at c45
     have hS:=j.stop (by omega) (show(aM u) j.k=false by simp only[aM,aI,aY];grind only);refine go [.R,.a,.Z] ?_;refine aQ 2 ?_;refine rb ?_;simp only[bg,aS,aH,aR];grind only
    try simp only[ah]at c45
    refine go [.J,.R1,.m,.b,.N,.a,.Z] ?_;refine⟨⟨j.k+1,by omega,j.next (show(aM u) j.k=true by simp only[aM,aI,aY];grind only)⟩,ws,?_⟩;show u.ak.length-(j.k+1)<u.ak.length-j.k;omega
   refine go [.t 33,.G,.t 34,.f,.N,.t 35,.l,.t 37,.G,.t 38,.f,.N,.t 39,.l] ?_;refine a1 36 [37,38,39] [35,33,32,34,31,19,30,16,18,29,15,13,17,28,26,14,10,12,27,25,9,4,11,24,8,3,2,23,21,7,1,22,20,6,0,5] rfl (nF g44) (aE.aC rfl (by decide) call186 rfl rfl (bH u _ _ hb)) ?_;refine go [.N,.g,.G,.g,.f,.g,.l,.N] ?_;refine a1 40 [] [39,37,36,32,38,35,33,31,19,34,30,16,18,29,15,13,17,28,26,14,10,12,27,25,9,4,11,24,8,3,2,23,21,7,1,22,20,6,0,5] rfl (nF g44) (aE.aC rfl (by decide) call186 rfl rfl (bH u _ _ hb)) ?_;refine go [.N,.t 41,.b,.t 42,.b] ?_;refine tk 43 rfl (Qt.bd rfl g44) ?_;refine go [.N,.Z] ?_;refine cd (λc46=>?_) λc46=>?_
   ·try simp only[ah]at c46
    have hS:=j.stop (by omega) (show(aM u) j.k=false by simp only[aM,aI,aY];grind only);refine go [.R,.a,.Z] ?_;refine aQ 2 ?_;refine rb ?_;simp only[bg,aS,aH,aR];grind only
   try simp only[ah]at c46
   refine go [.J,.R1,.m,.b,.N,.a,.Z] ?_;refine⟨⟨j.k+1,by omega,j.next (show(aM u) j.k=true by simp only[aM,aI,aY];grind only)⟩,ws,?_⟩;show u.ak.length-(j.k+1)<u.ak.length-j.k;omega
  refine go [.t 11,.f,.t 12,.l,.N] ?_;refine a1 13 [] [12,10,11,9,4,8,3,2,7,1,6,0,5] rfl (nF g35) (aE.aC rfl (by decide) call137 rfl rfl (eS _)) ?_;refine go [.N,.t 14,.n] ?_;refine tk 15 rfl (Qt.bd rfl g35) ?_;refine go [.t 16,.m,.N] ?_;refine aO.split 87 rfl (λg47=>?_) (λg47=>?_)
  ·refine go [.t 17,.x,.t 18,.x,.t 19,.x,.N,.t 20,.x,.t 21,.x,.t 22,.x,.N,.t 23,.x,.t 24,.x,.t 25,.x,.N,.t 26,.x,.t 27,.x,.t 28,.x,.N,.t 29,.x,.t 30,.x] ?_;refine tk 31 rfl (Qt.bj rfl g47) ?_;refine go [.N,.t 32,.m] ?_;refine aO.split 103 rfl (λg48=>?_) (λg48=>?_)
   ·refine go [.t 33,.x,.t 34,.x,.N,.t 35,.x,.t 37,.x,.t 38,.x,.N,.t 39,.x,.O 36 [37,38,39] [35,33,32,34,31,19,30,16,18,29,15,13,17,28,26,14,10,12,27,25,9,4,11,24,8,3,2,23,21,7,1,22,20,6,0,5],.x,.N,.g,.x,.g,.x,.g,.x,.N,.O 40 [] [39,37,36,32,38,35,33,31,19,34,30,16,18,29,15,13,17,28,26,14,10,12,27,25,9,4,11,24,8,3,2,23,21,7,1,22,20,6,0,5],.x,.N,.t 41,.x,.t 42,.x] ?_;refine tk 43 rfl (Qt.bj rfl g48) ?_;refine go [.N,.Z] ?_;refine cd (λc49=>?_) λc49=>?_
    ·try simp only[ah]at c49
     have hS:=j.stop (by omega) (show(aM u) j.k=false by simp only[aM,aI,aY];grind only);refine go [.R,.a,.Z] ?_;refine aQ 2 ?_;refine rb ?_;simp only[bg,aS,aH,aR];grind only
    try simp only[ah]at c49
    refine go [.J,.R1,.m,.b,.N,.a,.Z] ?_;refine⟨⟨j.k+1,by omega,j.next (show(aM u) j.k=true by simp only[aM,aI,aY];grind only)⟩,ws,?_⟩;show u.ak.length-(j.k+1)<u.ak.length-j.k;omega
   refine go [.t 33,.G,.t 34,.f,.N,.t 35,.l,.t 37,.G,.t 38,.f,.N,.t 39,.l] ?_;refine a1 36 [37,38,39] [35,33,32,34,31,19,30,16,18,29,15,13,17,28,26,14,10,12,27,25,9,4,11,24,8,3,2,23,21,7,1,22,20,6,0,5] rfl (nF g48) (aE.aC rfl (by decide) call186 rfl rfl (bH u _ _ hb)) ?_;refine go [.N,.g,.G,.g,.f,.g,.l,.N] ?_;refine a1 40 [] [39,37,36,32,38,35,33,31,19,34,30,16,18,29,15,13,17,28,26,14,10,12,27,25,9,4,11,24,8,3,2,23,21,7,1,22,20,6,0,5] rfl (nF g48) (aE.aC rfl (by decide) call186 rfl rfl (bH u _ _ hb)) ?_;refine go [.N,.t 41,.b,.t 42,.b] ?_;refine tk 43 rfl (Qt.bd rfl g48) ?_;refine go [.N,.Z] ?_;refine cd (λc50=>?_) λc50=>?_
   ·try simp only[ah]at c50
    have hS:=j.stop (by omega) (show(aM u) j.k=false by simp only[aM,aI,aY];grind only);refine go [.R,.a,.Z] ?_;refine aQ 2 ?_;refine rb ?_;simp only[bg,aS,aH,aR];grind only
   try simp only[ah]at c50
   refine go [.J,.R1,.m,.b,.N,.a,.Z] ?_;refine⟨⟨j.k+1,by omega,j.next (show(aM u) j.k=true by simp only[aM,aI,aY];grind only)⟩,ws,?_⟩;show u.ak.length-(j.k+1)<u.ak.length-j.k;omega
  refine go [.t 17,.m,.t 18,.b,.N,.t 19,.m] ?_;refine aO.split 90 rfl (λg51=>?_) (λg51=>?_)
  ·refine go [.t 20,.f,.t 21,.l,.N,.t 22,.m,.t 23,.b,.t 24,.i,.N,.t 25,.f,.t 26,.l,.t 27,.f,.N,.t 28,.l,.t 29,.b] ?_;refine tg 30 rfl (nF g47) (Qt.bj rfl g51) ?_;refine go [.N] ?_;refine tk 31 rfl (Qt.bd rfl g47) ?_;refine go [.t 32,.m] ?_;refine aO.split 103 rfl (λg52=>?_) (λg52=>?_)
   ·refine go [.t 33,.x,.N,.t 34,.x,.t 35,.x,.t 37,.x,.N,.t 38,.x,.t 39,.x,.O 36 [37,38,39] [35,33,32,34,31,19,30,16,18,29,15,13,17,28,26,14,10,12,27,25,9,4,11,24,8,3,2,23,21,7,1,22,20,6,0,5],.x,.N,.g,.x,.g,.x,.g,.x,.N,.O 40 [] [39,37,36,32,38,35,33,31,19,34,30,16,18,29,15,13,17,28,26,14,10,12,27,25,9,4,11,24,8,3,2,23,21,7,1,22,20,6,0,5],.x,.N,.t 41,.x,.t 42,.x] ?_;refine tk 43 rfl (Qt.bj rfl g52) ?_;refine go [.N,.Z] ?_;refine cd (λc53=>?_) λc53=>?_
    ·try simp only[ah]at c53
     have hS:=j.stop (by omega) (show(aM u) j.k=false by simp only[aM,aI,aY];grind only);refine go [.R,.a,.Z] ?_;refine aQ 2 ?_;refine rb ?_;simp only[bg,aS,aH,aR];grind only
    try simp only[ah]at c53
    refine go [.J,.R1,.m,.b,.N,.a,.Z] ?_;refine⟨⟨j.k+1,by omega,j.next (show(aM u) j.k=true by simp only[aM,aI,aY];grind only)⟩,ws,?_⟩;show u.ak.length-(j.k+1)<u.ak.length-j.k;omega
   refine go [.t 33,.G,.t 34,.f,.N,.t 35,.l,.t 37,.G,.t 38,.f,.N,.t 39,.l] ?_;refine a1 36 [37,38,39] [35,33,32,34,31,19,30,16,18,29,15,13,17,28,26,14,10,12,27,25,9,4,11,24,8,3,2,23,21,7,1,22,20,6,0,5] rfl (nF g52) (aE.aC rfl (by decide) call186 rfl rfl (bH u _ _ hb)) ?_;refine go [.N,.g,.G,.g,.f,.g,.l,.N] ?_;refine a1 40 [] [39,37,36,32,38,35,33,31,19,34,30,16,18,29,15,13,17,28,26,14,10,12,27,25,9,4,11,24,8,3,2,23,21,7,1,22,20,6,0,5] rfl (nF g52) (aE.aC rfl (by decide) call186 rfl rfl (bH u _ _ hb)) ?_;refine go [.N,.t 41,.b,.t 42,.b] ?_;refine tk 43 rfl (Qt.bd rfl g52) ?_;refine go [.N,.Z] ?_;refine cd (λc54=>?_) λc54=>?_
   ·try simp only[ah]at c54
    have hS:=j.stop (by omega) (show(aM u) j.k=false by simp only[aM,aI,aY];grind only);refine go [.R,.a,.Z] ?_;refine aQ 2 ?_;refine rb ?_;simp only[bg,aS,aH,aR];grind only
   try simp only[ah]at c54
   refine go [.J,.R1,.m,.b,.N,.a,.Z] ?_;refine⟨⟨j.k+1,by omega,j.next (show(aM u) j.k=true by simp only[aM,aI,aY];grind only)⟩,ws,?_⟩;show u.ak.length-(j.k+1)<u.ak.length-j.k;omega
  refine go [.t 20,.x,.t 21,.x,.N,.t 22,.x,.t 23,.x,.t 24,.x,.N,.t 25,.x,.t 26,.x,.t 27,.x,.N,.t 28,.x,.t 29,.x] ?_;refine tg 30 rfl (nF g47) (Qt.bd rfl g51) ?_;refine go [.N] ?_;refine tk 31 rfl (Qt.bd rfl g47) ?_;refine go [.t 32,.m] ?_;refine aO.split 103 rfl (λg55=>?_) (λg55=>?_)
  ·refine go [.t 33,.x,.N,.t 34,.x,.t 35,.x,.t 37,.x,.N,.t 38,.x,.t 39,.x,.O 36 [37,38,39] [35,33,32,34,31,19,30,16,18,29,15,13,17,28,26,14,10,12,27,25,9,4,11,24,8,3,2,23,21,7,1,22,20,6,0,5],.x,.N,.g,.x,.g,.x,.g,.x,.N,.O 40 [] [39,37,36,32,38,35,33,31,19,34,30,16,18,29,15,13,17,28,26,14,10,12,27,25,9,4,11,24,8,3,2,23,21,7,1,22,20,6,0,5],.x,.N,.t 41,.x,.t 42,.x] ?_;refine tk 43 rfl (Qt.bj rfl g55) ?_;refine go [.N,.Z] ?_;refine cd (λc56=>?_) λc56=>?_
   ·try simp only[ah]at c56
    have hS:=j.stop (by omega) (show(aM u) j.k=false by simp only[aM,aI,aY];grind only);refine go [.R,.a,.Z] ?_;refine aQ 2 ?_;refine rb ?_;simp only[bg,aS,aH,aR];grind only
   try simp only[ah]at c56
   refine go [.J,.R1,.m,.b,.N,.a,.Z] ?_;refine⟨⟨j.k+1,by omega,j.next (show(aM u) j.k=true by simp only[aM,aI,aY];grind only)⟩,ws,?_⟩;show u.ak.length-(j.k+1)<u.ak.length-j.k;omega
  refine go [.t 33,.G,.t 34,.f,.N,.t 35,.l,.t 37,.G,.t 38,.f,.N,.t 39,.l] ?_;refine a1 36 [37,38,39] [35,33,32,34,31,19,30,16,18,29,15,13,17,28,26,14,10,12,27,25,9,4,11,24,8,3,2,23,21,7,1,22,20,6,0,5] rfl (nF g55) (aE.aC rfl (by decide) call186 rfl rfl (bH u _ _ hb)) ?_;refine go [.N,.g,.G,.g,.f,.g,.l,.N] ?_;refine a1 40 [] [39,37,36,32,38,35,33,31,19,34,30,16,18,29,15,13,17,28,26,14,10,12,27,25,9,4,11,24,8,3,2,23,21,7,1,22,20,6,0,5] rfl (nF g55) (aE.aC rfl (by decide) call186 rfl rfl (bH u _ _ hb)) ?_;refine go [.N,.t 41,.b,.t 42,.b] ?_;refine tk 43 rfl (Qt.bd rfl g55) ?_;refine go [.N,.Z] ?_;refine cd (λc57=>?_) λc57=>?_
  ·try simp only[ah]at c57
   have hS:=j.stop (by omega) (show(aM u) j.k=false by simp only[aM,aI,aY];grind only);refine go [.R,.a,.Z] ?_;refine aQ 2 ?_;refine rb ?_;simp only[bg,aS,aH,aR];grind only
  try simp only[ah]at c57
  refine go [.J,.R1,.m,.b,.N,.a,.Z] ?_;refine⟨⟨j.k+1,by omega,j.next (show(aM u) j.k=true by simp only[aM,aI,aY];grind only)⟩,ws,?_⟩;show u.ak.length-(j.k+1)<u.ak.length-j.k;omega
 try simp only[ah]at c10
 have hB:=j.full (by omega);refine AW.exit ?_;dsimp only[aD,au,reduceIte];refine go [.R2,.a,.Z] ?_;refine AW.block ?_;refine AW.aL (λm:q_ (bh u.ay) u.ay.length=>[.sl 6 (.v (iv m.k)),.rt 1 .box (T.s 9 1 λk c=>([(T.v (iv u.Next),none),(T.v (iv u.bp),none),(T.j,none),(T.j,none),(T.j,none),(T.j,none),(T.j,none),(T.j,none),(T.j,none)].getD (k*9+c) (T.j,none)).fst),.al 1 2 (.h aa []),.al 1 3 (.h (aa+1) []),.al 1 4 (.h (aa+2) []),.al 1 5 (.h (aa+3) []),.al 1 6 (.h (aa+4) []),.al 1 7 (.h (aa+5) []),.al 1 8 (.h (aa+6) []),.rt aa .ro (tr u.aP),.rt (aa+1) .ro (tr u.ag),.rt (aa+2) .ro (tr u.ao),.rt (aa+3) .ro (tr u.ak),.rt (aa+4) .ro (tr u.ay),.rt (aa+5) .ro (tr u.aN),.rt (aa+6) .ro (tr u.Out),.sl 1 (.p 1 [] 9 0 0)]) (λm=>u.ay.length-m.k) ⟨0,zero_le _,λ_ h=>absurd h (not_lt_zero _)⟩ (ws) ?_;intro m;have hlem:=m.le;have hTm:((m.k:Int)-1).toNat=m.k-1:=by omega
 refine go [.R2,.m,.N,.f,.l,.h,.N,.b,.Z] ?_;refine cd (λc58=>?_) λc58=>?_
 ·try simp only[ah]at c58
  refine jd (AW.seq (AW.block (sr ?_)));refine go [.f,.l,.N,.m,.i,.G,.N,.A,.N,.s,.Z] ?_;refine AW.seq ?_;refine go [.D [0,1,3,4,5,6,7,8,9,10,11,12,14,15,16,17,18,19,20,21,22,23,24,25,26,27,28,29,30,31],.t 0,.f,.N,.t 1,.l] ?_;refine a1 2 [] [1,0] rfl rfl (aE.aC rfl (by decide) call135 rfl rfl (cD _ _ _)) ?_;refine go [.N,.t 3,.n,.t 4,.m] ?_;refine aO.split 131 rfl (λg59=>?_) (λg59=>?_)
  ·refine go [.t 5,.x,.N,.t 6,.x,.t 7,.x,.t 8,.x,.N] ?_;refine tk 9 rfl (Qt.bj rfl g59) ?_;refine go [.t 10,.m] ?_;refine aO.split 137 rfl (λg60=>?_) (λg60=>?_)
   ·refine go [.t 11,.x,.N,.t 12,.x,.O 13 [] [12,10,11,9,4,8,3,2,7,1,6,0,5],.x,.N,.t 14,.x] ?_;refine tk 15 rfl (Qt.bj rfl g60) ?_;refine go [.t 16,.m,.N] ?_;refine aO.split 143 rfl (λg61=>?_) (λg61=>?_)
    ·refine go [.t 17,.x,.t 18,.x,.t 19,.x,.N,.t 20,.x,.t 21,.x,.t 22,.x,.N,.t 23,.x,.t 24,.x,.t 25,.x,.N,.t 26,.x,.t 27,.x,.t 28,.x,.N,.t 29,.x,.t 30,.x] ?_;refine tk 31 rfl (Qt.bj rfl g61) ?_;refine go [.N,.Z] ?_;refine cd (λc62=>?_) λc62=>?_
     ·try simp only[ah]at c62
      have hS:=m.stop (by omega) (show(bh u.ay) m.k=false by simp only[bh,aI,bE];grind only);refine go [.R,.a,.Z] ?_;refine aQ 2 ?_;refine rb ?_;simp only[bg,aS,aH,aR];grind only
     try simp only[ah]at c62
     refine go [.J,.R1,.m,.b,.N,.a,.Z] ?_;refine⟨⟨m.k+1,by omega,m.next (show(bh u.ay) m.k=true by simp only[bh,aI,bE];grind only)⟩,ws,?_⟩;show u.ay.length-(m.k+1)<u.ay.length-m.k;omega
    refine go [.t 17,.m,.t 18,.b,.N,.t 19,.m] ?_;refine aO.split 146 rfl (λg63=>?_) (λg63=>?_)
    ·refine go [.t 20,.f,.t 21,.l,.N,.t 22,.m,.t 23,.b,.t 24,.i,.N,.t 25,.f,.t 26,.l,.t 27,.f,.N,.t 28,.l,.t 29,.b] ?_;refine tg 30 rfl (nF g61) (Qt.bj rfl g63) ?_;refine go [.N] ?_;refine tk 31 rfl (Qt.bd rfl g61) ?_;refine go [.Z] ?_;refine cd (λc64=>?_) λc64=>?_
     ·try simp only[ah]at c64
      have hS:=m.stop (by omega) (show(bh u.ay) m.k=false by simp only[bh,aI,bE];grind only);refine go [.R,.a,.Z] ?_;refine aQ 2 ?_;refine rb ?_;simp only[bg,aS,aH,aR];grind only
     try simp only[ah]at c64
     refine go [.J,.R1,.m,.N,.b,.a,.Z] ?_;refine⟨⟨m.k+1,by omega,m.next (show(bh u.ay) m.k=true by simp only[bh,aI,bE];grind only)⟩,ws,?_⟩;show u.ay.length-(m.k+1)<u.ay.length-m.k;omega
    refine go [.t 20,.x,.N,.t 21,.x,.t 22,.x,.t 23,.x,.N,.t 24,.x,.t 25,.x,.t 26,.x,.N,.t 27,.x,.t 28,.x,.t 29,.x,.N] ?_;refine tg 30 rfl (nF g61) (Qt.bd rfl g63) ?_;refine tk 31 rfl (Qt.bd rfl g61) ?_;refine go [.Z] ?_;refine cd (λc65=>?_) λc65=>?_
    ·try simp only[ah]at c65
     have hS:=m.stop (by omega) (show(bh u.ay) m.k=false by simp only[bh,aI,bE];grind only);refine go [.R,.a,.Z] ?_;refine aQ 2 ?_;refine rb ?_;simp only[bg,aS,aH,aR];grind only
    try simp only[ah]at c65
    refine go [.J,.R1,.m,.N,.b,.a,.Z] ?_;refine⟨⟨m.k+1,by omega,m.next (show(bh u.ay) m.k=true by simp only[bh,aI,bE];grind only)⟩,ws,?_⟩;show u.ay.length-(m.k+1)<u.ay.length-m.k;omega
   refine go [.t 11,.f,.N,.t 12,.l] ?_;refine a1 13 [] [12,10,11,9,4,8,3,2,7,1,6,0,5] rfl (nF g60) (aE.aC rfl (by decide) call137 rfl rfl (eS _)) ?_;refine go [.N,.t 14,.n] ?_;refine tk 15 rfl (Qt.bd rfl g60) ?_;refine go [.t 16,.m,.N] ?_;refine aO.split 143 rfl (λg66=>?_) (λg66=>?_)
   ·refine go [.t 17,.x,.t 18,.x,.t 19,.x,.N,.t 20,.x,.t 21,.x,.t 22,.x,.N,.t 23,.x,.t 24,.x,.t 25,.x,.N,.t 26,.x,.t 27,.x,.t 28,.x,.N,.t 29,.x,.t 30,.x] ?_;refine tk 31 rfl (Qt.bj rfl g66) ?_;refine go [.N,.Z] ?_;refine cd (λc67=>?_) λc67=>?_
    ·try simp only[ah]at c67
     have hS:=m.stop (by omega) (show(bh u.ay) m.k=false by simp only[bh,aI,bE];grind only);refine go [.R,.a,.Z] ?_;refine aQ 2 ?_;refine rb ?_;simp only[bg,aS,aH,aR];grind only
    try simp only[ah]at c67
    refine go [.J,.R1,.m,.b,.N,.a,.Z] ?_;refine⟨⟨m.k+1,by omega,m.next (show(bh u.ay) m.k=true by simp only[bh,aI,bE];grind only)⟩,ws,?_⟩;show u.ay.length-(m.k+1)<u.ay.length-m.k;omega
   refine go [.t 17,.m,.t 18,.b,.N,.t 19,.m] ?_;refine aO.split 146 rfl (λg68=>?_) (λg68=>?_)
   ·refine go [.t 20,.f,.t 21,.l,.N,.t 22,.m,.t 23,.b,.t 24,.i,.N,.t 25,.f,.t 26,.l,.t 27,.f,.N,.t 28,.l,.t 29,.b] ?_;refine tg 30 rfl (nF g66) (Qt.bj rfl g68) ?_;refine go [.N] ?_;refine tk 31 rfl (Qt.bd rfl g66) ?_;refine go [.Z] ?_;refine cd (λc69=>?_) λc69=>?_
    ·try simp only[ah]at c69
     have hS:=m.stop (by omega) (show(bh u.ay) m.k=false by simp only[bh,aI,bE];grind only);refine go [.R,.a,.Z] ?_;refine aQ 2 ?_;refine rb ?_;simp only[bg,aS,aH,aR];grind only
    try simp only[ah]at c69
    refine go [.J,.R1,.m,.N,.b,.a,.Z] ?_;refine⟨⟨m.k+1,by omega,m.next (show(bh u.ay) m.k=true by simp only[bh,aI,bE];grind only)⟩,ws,?_⟩;show u.ay.length-(m.k+1)<u.ay.length-m.k;omega
   refine go [.t 20,.x,.N,.t 21,.x,.t 22,.x,.t 23,.x,.N,.t 24,.x,.t 25,.x,.t 26,.x,.N,.t 27,.x,.t 28,.x,.t 29,.x,.N] ?_;refine tg 30 rfl (nF g66) (Qt.bd rfl g68) ?_;refine tk 31 rfl (Qt.bd rfl g66) ?_;refine go [.Z] ?_;refine cd (λc70=>?_) λc70=>?_
   ·try simp only[ah]at c70
    have hS:=m.stop (by omega) (show(bh u.ay) m.k=false by simp only[bh,aI,bE];grind only);refine go [.R,.a,.Z] ?_;refine aQ 2 ?_;refine rb ?_;simp only[bg,aS,aH,aR];grind only
   try simp only[ah]at c70
   refine go [.J,.R1,.m,.N,.b,.a,.Z] ?_;refine⟨⟨m.k+1,by omega,m.next (show(bh u.ay) m.k=true by simp only[bh,aI,bE];grind only)⟩,ws,?_⟩;show u.ay.length-(m.k+1)<u.ay.length-m.k;omega
  refine go [.t 5,.f,.N,.t 6,.l,.t 7,.h,.t 8,.b,.N] ?_;refine tk 9 rfl (Qt.bd rfl g59) ?_;refine go [.t 10,.m] ?_;refine aO.split 137 rfl (λg71=>?_) (λg71=>?_)
  ·refine go [.t 11,.x,.N,.t 12,.x,.O 13 [] [12,10,11,9,4,8,3,2,7,1,6,0,5],.x,.N,.t 14,.x] ?_;refine tk 15 rfl (Qt.bj rfl g71) ?_;refine go [.t 16,.m,.N] ?_;refine aO.split 143 rfl (λg72=>?_) (λg72=>?_)
   ·refine go [.t 17,.x,.t 18,.x,.t 19,.x,.N,.t 20,.x,.t 21,.x,.t 22,.x,.N,.t 23,.x,.t 24,.x,.t 25,.x,.N,.t 26,.x,.t 27,.x,.t 28,.x,.N,.t 29,.x,.t 30,.x] ?_;refine tk 31 rfl (Qt.bj rfl g72) ?_;refine go [.N,.Z] ?_;refine cd (λc73=>?_) λc73=>?_
    ·try simp only[ah]at c73
     have hS:=m.stop (by omega) (show(bh u.ay) m.k=false by simp only[bh,aI,bE];grind only);refine go [.R,.a,.Z] ?_;refine aQ 2 ?_;refine rb ?_;simp only[bg,aS,aH,aR];grind only
    try simp only[ah]at c73
    refine go [.J,.R1,.m,.b,.N,.a,.Z] ?_;refine⟨⟨m.k+1,by omega,m.next (show(bh u.ay) m.k=true by simp only[bh,aI,bE];grind only)⟩,ws,?_⟩;show u.ay.length-(m.k+1)<u.ay.length-m.k;omega
   refine go [.t 17,.m,.t 18,.b,.N,.t 19,.m] ?_;refine aO.split 146 rfl (λg74=>?_) (λg74=>?_)
   ·refine go [.t 20,.f,.t 21,.l,.N,.t 22,.m,.t 23,.b,.t 24,.i,.N,.t 25,.f,.t 26,.l,.t 27,.f,.N,.t 28,.l,.t 29,.b] ?_;refine tg 30 rfl (nF g72) (Qt.bj rfl g74) ?_;refine go [.N] ?_;refine tk 31 rfl (Qt.bd rfl g72) ?_;refine go [.Z] ?_;refine cd (λc75=>?_) λc75=>?_
    ·try simp only[ah]at c75
     have hS:=m.stop (by omega) (show(bh u.ay) m.k=false by simp only[bh,aI,bE];grind only);refine go [.R,.a,.Z] ?_;refine aQ 2 ?_;refine rb ?_;simp only[bg,aS,aH,aR];grind only
    try simp only[ah]at c75
    refine go [.J,.R1,.m,.N,.b,.a,.Z] ?_;refine⟨⟨m.k+1,by omega,m.next (show(bh u.ay) m.k=true by simp only[bh,aI,bE];grind only)⟩,ws,?_⟩;show u.ay.length-(m.k+1)<u.ay.length-m.k;omega
   refine go [.t 20,.x,.N,.t 21,.x,.t 22,.x,.t 23,.x,.N,.t 24,.x,.t 25,.x,.t 26,.x,.N,.t 27,.x,.t 28,.x,.t 29,.x,.N] ?_;refine tg 30 rfl (nF g72) (Qt.bd rfl g74) ?_;refine tk 31 rfl (Qt.bd rfl g72) ?_;refine go [.Z] ?_;refine cd (λc76=>?_) λc76=>?_
   ·try simp only[ah]at c76
    have hS:=m.stop (by omega) (show(bh u.ay) m.k=false by simp only[bh,aI,bE];grind only);refine go [.R,.a,.Z] ?_;refine aQ 2 ?_;refine rb ?_;simp only[bg,aS,aH,aR];grind only
   try simp only[ah]at c76
   refine go [.J,.R1,.m,.N,.b,.a,.Z] ?_;refine⟨⟨m.k+1,by omega,m.next (show(bh u.ay) m.k=true by simp only[bh,aI,bE];grind only)⟩,ws,?_⟩;show u.ay.length-(m.k+1)<u.ay.length-m.k;omega
  refine go [.t 11,.f,.N,.t 12,.l] ?_;refine a1 13 [] [12,10,11,9,4,8,3,2,7,1,6,0,5] rfl (nF g71) (aE.aC rfl (by decide) call137 rfl rfl (eS _)) ?_;refine go [.N,.t 14,.n] ?_;refine tk 15 rfl (Qt.bd rfl g71) ?_;refine go [.t 16,.m,.N] ?_;refine aO.split 143 rfl (λg77=>?_) (λg77=>?_)
  ·refine go [.t 17,.x,.t 18,.x,.t 19,.x,.N,.t 20,.x,.t 21,.x,.t 22,.x,.N,.t 23,.x,.t 24,.x,.t 25,.x,.N,.t 26,.x,.t 27,.x,.t 28,.x,.N,.t 29,.x,.t 30,.x] ?_;refine tk 31 rfl (Qt.bj rfl g77) ?_;refine go [.N,.Z] ?_;refine cd (λc78=>?_) λc78=>?_
   ·try simp only[ah]at c78
    have hS:=m.stop (by omega) (show(bh u.ay) m.k=false by simp only[bh,aI,bE];grind only);refine go [.R,.a,.Z] ?_;refine aQ 2 ?_;refine rb ?_;simp only[bg,aS,aH,aR];grind only
   try simp only[ah]at c78
   refine go [.J,.R1,.m,.b,.N,.a,.Z] ?_;refine⟨⟨m.k+1,by omega,m.next (show(bh u.ay) m.k=true by simp only[bh,aI,bE];grind only)⟩,ws,?_⟩;show u.ay.length-(m.k+1)<u.ay.length-m.k;omega
  refine go [.t 17,.m,.t 18,.b,.N,.t 19,.m] ?_;refine aO.split 146 rfl (λg79=>?_) (λg79=>?_)
  ·refine go [.t 20,.f,.t 21,.l,.N,.t 22,.m,.t 23,.b,.t 24,.i,.N,.t 25,.f,.t 26,.l,.t 27,.f,.N,.t 28,.l,.t 29,.b] ?_;refine tg 30 rfl (nF g77) (Qt.bj rfl g79) ?_;refine go [.N] ?_;refine tk 31 rfl (Qt.bd rfl g77) ?_;refine go [.Z] ?_;refine cd (λc80=>?_) λc80=>?_
   ·try simp only[ah]at c80
    have hS:=m.stop (by omega) (show(bh u.ay) m.k=false by simp only[bh,aI,bE];grind only);refine go [.R,.a,.Z] ?_;refine aQ 2 ?_;refine rb ?_;simp only[bg,aS,aH,aR];grind only
   try simp only[ah]at c80
   refine go [.J,.R1,.m,.N,.b,.a,.Z] ?_;refine⟨⟨m.k+1,by omega,m.next (show(bh u.ay) m.k=true by simp only[bh,aI,bE];grind only)⟩,ws,?_⟩;show u.ay.length-(m.k+1)<u.ay.length-m.k;omega
  refine go [.t 20,.x,.N,.t 21,.x,.t 22,.x,.t 23,.x,.N,.t 24,.x,.t 25,.x,.t 26,.x,.N,.t 27,.x,.t 28,.x,.t 29,.x,.N] ?_;refine tg 30 rfl (nF g77) (Qt.bd rfl g79) ?_;refine tk 31 rfl (Qt.bd rfl g77) ?_;refine go [.Z] ?_;refine cd (λc81=>?_) λc81=>?_
  ·try simp only[ah]at c81
   have hS:=m.stop (by omega) (show(bh u.ay) m.k=false by simp only[bh,aI,bE];grind only);refine go [.R,.a,.Z] ?_;refine aQ 2 ?_;refine rb ?_;simp only[bg,aS,aH,aR];grind only
  try simp only[ah]at c81
  refine go [.J,.R1,.m,.N,.b,.a,.Z] ?_;refine⟨⟨m.k+1,by omega,m.next (show(bh u.ay) m.k=true by simp only[bh,aI,bE];grind only)⟩,ws,?_⟩;show u.ay.length-(m.k+1)<u.ay.length-m.k;omega
 try simp only[ah]at c58
 have hCC:=m.full (by omega);refine AW.exit ?_;dsimp only[aD,au,reduceIte];refine go [.R,.a,.Z] ?_;refine aQ 2 ?_;refine rb ?_;simp only[bg,aS,aH,aR];grind only
end Go.Proofs.YtekcnnngjoonbaaGreat.VM

