/- Contracts. No conditions. -/
import Derived.Test.YtekcnnngjoonbaaGreatWN
import Derived.Test.YtekcnnngjoonbaaGreatWO
import Derived.Test.YtekcnnngjoonbaaGreatWP
import Derived.Test.YtekcnnngjoonbaaGreatWT
set_option linter.all false
set_option maxHeartbeats 8000000
set_option maxRecDepth 10000
namespace Go.Proofs.YtekcnnngjoonbaaGreat.VM
open List Nat
open Go Go.RowKit Go.Proofs
theorem xd(a:bH)(hw:Mk.wt a≤1048576):bf Tryz.prog 16 [.g [.v (iv a.Next), .v (iv a.bF), .h aa [], .h (aa+1) [], .h (aa+2) [], .h (aa+3) [], .h (aa+4) [], .h (aa+5) [], .h (aa+6) [], .h (aa+7) [], .h (aa+8) []]] [.rt aa .ro (tr a.aV), .rt (aa+1) .ro (tr a.ah), .rt (aa+2) .ro (tr a.fb), .rt (aa+3) .ro (tr a.Heap.aU), .rt (aa+4) .ro (tr a.ax), .rt (aa+5) .ro (tr a.ao), .rt (aa+6) .ro (tr a.aC), .rt (aa+7) .ro (tr a.aR), .rt (aa+8) .ro (tr a.Out)] (λy _=>y= .v (.bool (lO a))):=by
 refine ob Tryz.func16 Tryz.ntmps16 ?_;refine AW.len (aa+1) [] rfl (by simp[ck]) rfl (λhl1=>?_);refine go [.R,.B,.N,.a,.Z,.R2,.G] (k:=?_);refine cv Tryz.call35 rfl rfl (mJ a) ?_;refine go [.N,.n,.m] (k:=?_);refine az.split 13 rfl (λg1=>?_) (λg1=>?_)
 ·have eg1:=g1
  try simp only[ai]at eg1
  refine go [.x,.x,.x,.x] (k:=?_);refine qq (Qt.bl rfl g1) ?_;refine go [.N,.m] (k:=?_);apply az.cut 4
  ·intro Kg2;refine az.bA 19 rfl (λg2=>?_) (λg2=>?_)
   ·have eg2:=g2
    try simp only[ai]at eg2
    refine go [.f,.G,.N] (k:=?_);refine az.step rfl (nF g2) (aK.aL rfl (by decide) Tryz.call82 rfl rfl (lD a.Heap)) ?_;refine go [.N,.n] (k:=?_);exact bZ 23 [20,21,22,23] (bY g2 _ undef) Kg2
   ·refine go [.x,.x,.x,.x] (k:=?_);exact bX 23 [20,21,22,23] (b6 g2 undef _) Kg2
  refine qq (Qt.bz rfl rfl rfl) ?_;refine go [.Z] (k:=?_);refine AW.cond rfl (λc3=>?_) (λc3=>(by exfalso;first|(cases c3;done)|(simp at c3;done)|(simp only[ai]at c3;omega)))
  try simp only[ai]at c3
  have hsh:cQ a=false:=by simpa using g1
  refine go [.R,.a,.Z] (k:=?_);refine aM 2 ?_;rw[show lO a=false from pK hsh];rfl
 have eg1:=g1
 try simp only[ai]at eg1
 refine go [.G] (k:=?_);have hsh:cQ a=true:=by simpa using g1
 have hS:=yP hsh;refine go [.N] (k:=?_);refine az.step rfl (nF g1) (aK.bV rfl (by decide) Tryz.call9 rfl rfl (vO a hw) (ak rfl) rfl rfl) ?_;refine go [.N] (k:=?_);refine az.step rfl (nF g1) (aK.aL rfl (by decide) Tryz.call81 rfl rfl (se (nb a) (by rw[qV hsh];exact nG hw))) ?_;refine go [.N,.n] (k:=?_);refine qq (Qt.bd rfl g1) ?_;refine go [.m,.N] (k:=?_);apply az.cut 4
 ·intro Kg4;refine az.bA 19 rfl (λg4=>?_) (λg4=>?_)
  ·have eg4:=g4
   try simp only[ai]at eg4
   refine go [.f,.G] (k:=?_);refine az.step rfl (nF g4) (aK.aL rfl (by decide) Tryz.call82 rfl rfl (lD a.Heap)) ?_;refine go [.N,.n] (k:=?_);exact bZ 23 [20,21,22,23] (bY g4 _ undef) Kg4
  ·refine go [.x,.x,.x,.x] (k:=?_);exact bX 23 [20,21,22,23] (b6 g4 undef _) Kg4
 refine qq (Qt.bz rfl rfl rfl) ?_;refine go [.Z] (k:=?_);refine cd (λc5=>?_) λc5=>?_
 ·have k5:=c5
  try simp only[ai]at c5
  have hbad:lO a=false:=by
   have hk:=k5;rw[qV hsh,zk]at hk;simp only[Bool.or_eq_true,Bool.not_eq_true']at hk;rcases hk with hk|hk
   ·exact so hk
   ·exact sq hk
  refine go [.R,.a,.Z] (k:=?_);refine aM 2 ?_;rw[hbad];rfl
 have k5:=c5
 try simp only[ai]at c5
 have hUH:dn (fW a)=true∧rI a.Heap.aU=true:=by
  have hk:=k5;rw[qV hsh,zk]at hk;simpa using hk
 obtain⟨hU,hH⟩:=hUH;refine go [.J,.R] (k:=?_);refine sp (aK.makeSlice rfl (by decide) (by decide) rfl rfl (by omega) (by omega) (by omega)) ?_;refine go [.N,.a,.Z,.R2,.f,.l,.N,.h,.m,.Z] (k:=?_);refine AW.block ?_;refine AW.bw (λi:Av a=>(.sl 29 (.v (iv i.k)) :: .sl 28 (.v (iv a.ah.length)) :: .sl 27 (.h (aa+1) []) :: .sl 3 (.h 25 []) :: .rt 1 .box (T.s 11 1 λk c=>([(T.v (iv a.Next),none),(T.v (iv a.bF),none),(T.j,none),(T.j,none),(T.j,none),(T.j,none),(T.j,none),(T.j,none),(T.j,none),(T.j,none),(T.j,none)].getD (k*11+c) (T.j,none)).fst) :: .al 1 2 (.h aa []) :: .al 1 3 (.h (aa+1) []) :: .al 1 4 (.h (aa+2) []) :: .al 1 5 (.h (aa+3) []) :: .al 1 6 (.h (aa+4) []) :: .al 1 7 (.h (aa+5) []) :: .al 1 8 (.h (aa+6) []) :: .al 1 9 (.h (aa+7) []) :: .al 1 10 (.h (aa+8) []) :: .rt aa .ro (tr a.aV) :: .rt (aa+1) .ro (tr a.ah) :: .rt (aa+2) .ro (tr a.fb) :: .rt (aa+3) .ro (tr a.Heap.aU) :: .rt (aa+4) .ro (tr a.ax) :: .rt (aa+5) .ro (tr a.ao) :: .rt (aa+6) .ro (tr a.aC) :: .rt (aa+7) .ro (tr a.aR) :: .rt (aa+8) .ro (tr a.Out) :: .sl 1 (.p 1 [] 11 0 0) :: .rt 25 .row (tr i.u) :: [])) (λi=>a.ah.length-i.k) ⟨0,zero_le _,replicate 16 false,rfl,by simp⟩ (ar.aZ ⟨rfl,rfl,rfl,rfl,Rf rfl,⟨rfl,rfl⟩,⟨rfl,rfl⟩,⟨rfl,rfl⟩,⟨rfl,rfl⟩,⟨rfl,rfl⟩,⟨rfl,rfl⟩,⟨rfl,rfl⟩,⟨rfl,rfl⟩,⟨rfl,rfl⟩,Rf rfl,Rf rfl,Rf rfl,Rf rfl,Rf rfl,Rf rfl,Rf rfl,Rf rfl,Rf rfl,rfl,⟨_,rfl,nE 16⟩,trivial⟩ rfl rfl) ?_;intro i;have hle:=i.le;have hln:=i.ln;refine go [.R,.b,.Z] (k:=?_);refine AW.seq ?_;refine cd (λc6=>?_) λc6=>?_
 ·try simp only[ai]at c6
  refine jd (AW.seq (AW.block (sr ?_)));refine go [.m,.N,.i,.G,.A,.N,.a,.s,.Z] (k:=?_);refine AW.seq (AW.seq ?_);refine go [.D [0,1,2,3,4,5,6,7,8,9,10,11,12,13],.t 0,.m,.N,.t 1,.b,.t 2,.m] (k:=?_);refine aQ.split 36 rfl (λg7=>?_) (λg7=>?_)
  ·refine go [.t 3,.f,.N,.t 4,.l,.t 5,.m,.t 6,.b,.N,.t 7,.i,.t 8,.f,.t 9,.l,.N,.t 10,.f,.t 11,.l,.t 12,.b,.N] (k:=?_);refine tk 13 rfl (Qt.bl rfl g7) ?_;refine go [.Z] (k:=?_);refine cd (λc8=>?_) λc8=>?_
   ·have k8:=c8
    try simp only[ai]at c8
    have hup:ue a i.k=true:=by
     have hk:=k8;have e1:0<i.k→((i.k:Int)-1).toNat=i.k-1:=λ_=>by omega
     try rw[e1 (by omega)]at hk
     simp only[ue]
     grind
    refine go [.R,.a,.Z] (k:=?_);refine aM 2 ?_;rw[show lO a=false from jE (k:=i.k+1) ((eH i.hu).trans (xV hup)) (by omega)];rfl
   have k8:=c8
   try simp only[ai]at c8
   have hup:ue a i.k=false:=by
    have hk:=k8;have e1:0<i.k→((i.k:Int)-1).toNat=i.k-1:=λ_=>by omega
    try rw[e1 (by omega)]at hk
    simp only[ue]
    grind
   refine go [.J,.R,.f,.N,.l,.h,.m,.Z] (k:=?_);refine AW.block ?_;refine AW.bw (λj:pb (a.ah.getD i.k En.ab).bb i.u=>(.sl 51 (.v (iv j.k)) :: .sl 50 (.v (iv (a.ah.getD i.k En.ab).bb.length)) :: .sl 49 (.h (aa+1) [(10,i.k,6)]) :: .sl 29 (.v (iv i.k)) :: .sl 28 (.v (iv a.ah.length)) :: .sl 27 (.h (aa+1) []) :: .sl 3 (.h 25 []) :: .rt 1 .box (T.s 11 1 λk c=>([(T.v (iv a.Next),none),(T.v (iv a.bF),none),(T.j,none),(T.j,none),(T.j,none),(T.j,none),(T.j,none),(T.j,none),(T.j,none),(T.j,none),(T.j,none)].getD (k*11+c) (T.j,none)).fst) :: .al 1 2 (.h aa []) :: .al 1 3 (.h (aa+1) []) :: .al 1 4 (.h (aa+2) []) :: .al 1 5 (.h (aa+3) []) :: .al 1 6 (.h (aa+4) []) :: .al 1 7 (.h (aa+5) []) :: .al 1 8 (.h (aa+6) []) :: .al 1 9 (.h (aa+7) []) :: .al 1 10 (.h (aa+8) []) :: .rt aa .ro (tr a.aV) :: .rt (aa+1) .ro (tr a.ah) :: .rt (aa+2) .ro (tr a.fb) :: .rt (aa+3) .ro (tr a.Heap.aU) :: .rt (aa+4) .ro (tr a.ax) :: .rt (aa+5) .ro (tr a.ao) :: .rt (aa+6) .ro (tr a.aC) :: .rt (aa+7) .ro (tr a.aR) :: .rt (aa+8) .ro (tr a.Out) :: .sl 1 (.p 1 [] 11 0 0) :: .rt 25 .row (tr j.v) :: [])) (λj=>(a.ah.getD i.k En.ab).bb.length-j.k) ⟨0,zero_le _,i.u,rfl,i.ln⟩ (ws) ?_;intro j;have hlej:=j.le;have hjn:=j.ln;refine AW.len (aa+1) [(10,i.k,6)] rfl (by refine⟨rfl,?_,by decide,trivial⟩;show i.k<a.ah.length;omega) rfl (λhlp=>?_);refine go [.R,.b,.Z] (k:=?_);refine AW.seq ?_;refine cd (λc9=>?_) λc9=>?_
   ·try simp only[ai]at c9
    have hfr:=hS.fr i.k (by omega) j.k (by omega);refine jd (AW.seq (AW.block (sr ?_)));refine go [.i,.N,.l,.a,.Z,.R2,.m,.N,.m,.i,.l,.Z] (k:=?_);refine cd (λc10=>?_) λc10=>?_
    ·have k10:=c10
     try simp only[ai]at c10
     have hun:j.v.getD ((a.ah.getD i.k En.ab).bb.getD j.k En.ab).toNat En.ab=true:=by first|exact c10|simpa using k10
     refine go [.R,.a,.Z] (k:=?_);refine aM 2 ?_;rw[show lO a=false from jE (k:=i.k+1) ((eH i.hu).trans ((km hup).trans (j.bad (by omega) hun))) (by omega)];rfl
    have k10:=c10
    try simp only[ai]at c10
    have hun:j.v.getD ((a.ah.getD i.k En.ab).bb.getD j.k En.ab).toNat En.ab=false:=by first|exact c10|simpa using k10
    refine go [.J,.R1,.m,.N,.m,.i,.s,.Z,.R1,.b,.N,.m,.Z] (k:=?_);refine⟨⟨j.k+1,by omega,j.v.set ((a.ah.getD i.k En.ab).bb.getD j.k En.ab).toNat true,j.mark hun,by rw[length_set];exact j.ln⟩,ar.aZ ⟨fe,rfl,rfl,rfl,rfl,rfl,rfl,Rf rfl,⟨rfl,rfl⟩,⟨rfl,rfl⟩,⟨rfl,rfl⟩,⟨rfl,rfl⟩,⟨rfl,rfl⟩,⟨rfl,rfl⟩,⟨rfl,rfl⟩,⟨rfl,rfl⟩,⟨rfl,rfl⟩,Rf rfl,Rf rfl,Rf rfl,Rf rfl,Rf rfl,Rf rfl,Rf rfl,Rf rfl,Rf rfl,rfl,⟨_,rfl,(bN (λk c hk=>by simp only[aj,hk,false_and,if_false];try rfl) (λc hc=>match c,hc with|0,_=>(by simp only[aj,eq_self,and_self,if_true];exact au)|c+1,hc=>absurd hc (by simp only[En.n];omega)))⟩,trivial⟩ rfl rfl,?_⟩;show(a.ah.getD i.k En.ab).bb.length-(j.k+1)<(a.ah.getD i.k En.ab).bb.length-j.k;omega
   try simp only[ai]at c9
   refine AW.exit ?_;dsimp only[aJ,ay,reduceIte];refine go [.R1,.b,.m,.Z] (k:=?_);refine⟨⟨i.k+1,by omega,j.v,(eH i.hu).trans ((km hup).trans (j.full (by omega))),j.ln⟩,ws,?_⟩;show a.ah.length-(i.k+1)<a.ah.length-i.k;omega
  refine go [.t 3,.x,.N,.t 4,.x,.t 5,.x,.t 6,.x,.N,.t 7,.x,.t 8,.x,.t 9,.x,.N,.t 10,.x,.t 11,.x,.t 12,.x,.N] (k:=?_);refine tk 13 rfl (Qt.bd rfl g7) ?_;refine go [.Z] (k:=?_);refine AW.cond rfl (λc11=>(by exfalso;first|(cases c11;done)|(simp at c11;done)|(simp only[ai]at c11;omega))) (λc11=>?_);have k11:=c11
  try simp only[ai]at c11
  have hup:ue a i.k=false:=by
   have hk:=k11;have e1:0<i.k→((i.k:Int)-1).toNat=i.k-1:=λ_=>by omega
   try rw[e1 (by omega)]at hk
   simp only[ue]
   grind
  refine go [.J,.R,.f,.l,.N,.h,.m,.Z] (k:=?_);refine AW.block ?_;refine AW.bw (λj:pb (a.ah.getD i.k En.ab).bb i.u=>(.sl 51 (.v (iv j.k)) :: .sl 50 (.v (iv (a.ah.getD i.k En.ab).bb.length)) :: .sl 49 (.h (aa+1) [(10,i.k,6)]) :: .sl 29 (.v (iv i.k)) :: .sl 28 (.v (iv a.ah.length)) :: .sl 27 (.h (aa+1) []) :: .sl 3 (.h 25 []) :: .rt 1 .box (T.s 11 1 λk c=>([(T.v (iv a.Next),none),(T.v (iv a.bF),none),(T.j,none),(T.j,none),(T.j,none),(T.j,none),(T.j,none),(T.j,none),(T.j,none),(T.j,none),(T.j,none)].getD (k*11+c) (T.j,none)).fst) :: .al 1 2 (.h aa []) :: .al 1 3 (.h (aa+1) []) :: .al 1 4 (.h (aa+2) []) :: .al 1 5 (.h (aa+3) []) :: .al 1 6 (.h (aa+4) []) :: .al 1 7 (.h (aa+5) []) :: .al 1 8 (.h (aa+6) []) :: .al 1 9 (.h (aa+7) []) :: .al 1 10 (.h (aa+8) []) :: .rt aa .ro (tr a.aV) :: .rt (aa+1) .ro (tr a.ah) :: .rt (aa+2) .ro (tr a.fb) :: .rt (aa+3) .ro (tr a.Heap.aU) :: .rt (aa+4) .ro (tr a.ax) :: .rt (aa+5) .ro (tr a.ao) :: .rt (aa+6) .ro (tr a.aC) :: .rt (aa+7) .ro (tr a.aR) :: .rt (aa+8) .ro (tr a.Out) :: .sl 1 (.p 1 [] 11 0 0) :: .rt 25 .row (tr j.v) :: [])) (λj=>(a.ah.getD i.k En.ab).bb.length-j.k) ⟨0,zero_le _,i.u,rfl,i.ln⟩ (ws) ?_;intro j;have hlej:=j.le;have hjn:=j.ln;refine AW.len (aa+1) [(10,i.k,6)] rfl (by refine⟨rfl,?_,by decide,trivial⟩;show i.k<a.ah.length;omega) rfl (λhlp=>?_);refine go [.R,.b,.Z] (k:=?_);refine AW.seq ?_;refine cd (λc12=>?_) λc12=>?_
  ·try simp only[ai]at c12
   have hfr:=hS.fr i.k (by omega) j.k (by omega);refine jd (AW.seq (AW.block (sr ?_)));refine go [.i,.N,.l,.a,.Z,.R2,.m,.N,.m,.i,.l,.Z] (k:=?_);refine cd (λc13=>?_) λc13=>?_
   ·have k13:=c13
    try simp only[ai]at c13
    have hun:j.v.getD ((a.ah.getD i.k En.ab).bb.getD j.k En.ab).toNat En.ab=true:=by first|exact c13|simpa using k13
    refine go [.R,.a,.Z] (k:=?_);refine aM 2 ?_;rw[show lO a=false from jE (k:=i.k+1) ((eH i.hu).trans ((km hup).trans (j.bad (by omega) hun))) (by omega)];rfl
   have k13:=c13
   try simp only[ai]at c13
   have hun:j.v.getD ((a.ah.getD i.k En.ab).bb.getD j.k En.ab).toNat En.ab=false:=by first|exact c13|simpa using k13
   refine go [.J,.R1,.m,.N,.m,.i,.s,.Z,.R1,.b,.N,.m,.Z] (k:=?_);refine⟨⟨j.k+1,by omega,j.v.set ((a.ah.getD i.k En.ab).bb.getD j.k En.ab).toNat true,j.mark hun,by rw[length_set];exact j.ln⟩,ar.aZ ⟨fe,rfl,rfl,rfl,rfl,rfl,rfl,Rf rfl,⟨rfl,rfl⟩,⟨rfl,rfl⟩,⟨rfl,rfl⟩,⟨rfl,rfl⟩,⟨rfl,rfl⟩,⟨rfl,rfl⟩,⟨rfl,rfl⟩,⟨rfl,rfl⟩,⟨rfl,rfl⟩,Rf rfl,Rf rfl,Rf rfl,Rf rfl,Rf rfl,Rf rfl,Rf rfl,Rf rfl,Rf rfl,rfl,⟨_,rfl,(bN (λk c hk=>by simp only[aj,hk,false_and,if_false];try rfl) (λc hc=>match c,hc with|0,_=>(by simp only[aj,eq_self,and_self,if_true];exact au)|c+1,hc=>absurd hc (by simp only[En.n];omega)))⟩,trivial⟩ rfl rfl,?_⟩;show(a.ah.getD i.k En.ab).bb.length-(j.k+1)<(a.ah.getD i.k En.ab).bb.length-j.k;omega
  try simp only[ai]at c12
  refine AW.exit ?_;dsimp only[aJ,ay,reduceIte];refine go [.R1,.b,.m,.Z] (k:=?_);refine⟨⟨i.k+1,by omega,j.v,(eH i.hu).trans ((km hup).trans (j.full (by omega))),j.ln⟩,ws,?_⟩;show a.ah.length-(i.k+1)<a.ah.length-i.k;omega
 try simp only[ai]at c6
 refine AW.exit ?_;dsimp only[aJ,ay,reduceIte];refine go [.R2,.m,.N,.h,.m,.Z] (k:=?_);refine AW.block ?_;refine AW.bw (λm:qO (jC a i.u) 16=>(.sl 66 (.v (iv m.k)) :: .sl 65 (.v (iv i.u.length)) :: .sl 64 (.h 25 []) :: .sl 3 (.h 25 []) :: .rt 1 .box (T.s 11 1 λk c=>([(T.v (iv a.Next),none),(T.v (iv a.bF),none),(T.j,none),(T.j,none),(T.j,none),(T.j,none),(T.j,none),(T.j,none),(T.j,none),(T.j,none),(T.j,none)].getD (k*11+c) (T.j,none)).fst) :: .al 1 2 (.h aa []) :: .al 1 3 (.h (aa+1) []) :: .al 1 4 (.h (aa+2) []) :: .al 1 5 (.h (aa+3) []) :: .al 1 6 (.h (aa+4) []) :: .al 1 7 (.h (aa+5) []) :: .al 1 8 (.h (aa+6) []) :: .al 1 9 (.h (aa+7) []) :: .al 1 10 (.h (aa+8) []) :: .rt aa .ro (tr a.aV) :: .rt (aa+1) .ro (tr a.ah) :: .rt (aa+2) .ro (tr a.fb) :: .rt (aa+3) .ro (tr a.Heap.aU) :: .rt (aa+4) .ro (tr a.ax) :: .rt (aa+5) .ro (tr a.ao) :: .rt (aa+6) .ro (tr a.aC) :: .rt (aa+7) .ro (tr a.aR) :: .rt (aa+8) .ro (tr a.Out) :: .sl 1 (.p 1 [] 11 0 0) :: .rt 25 .row (tr i.u) :: [])) (λm=>16-m.k) ⟨0,by omega,λx h=>absurd h (by omega)⟩ (ws) ?_;intro m;have hlem:=m.le;refine go [.R,.b,.Z] (k:=?_);refine AW.seq ?_;refine cd (λc14=>?_) λc14=>?_
 ·try simp only[ai]at c14
  refine jd (AW.seq (AW.block (sr ?_)));refine go [.m,.N,.i,.l,.a,.N,.a,.Z,.R,.m,.f,.N,.G,.m] (k:=?_);refine cv Tryz.call83 rfl rfl (uR a.Heap (m.k:Nat) (ve hH) (by rw[jB];omega)) ?_;refine go [.N] (k:=?_);refine qq (Qt.Ay rfl rfl Tryz.underlying4) ?_;refine go [.Z] (k:=?_);refine cd (λc15=>?_) λc15=>?_
  ·have k15:=c15
   try simp only[ai]at c15
   have hq:jC a i.u m.k=false:=by
    have hk:=k15;simp only[jC]
    first|exact(congrArg (! ·) hk).trans rfl|simpa using hk
   refine go [.R,.a,.Z] (k:=?_);refine aM 2 ?_;rw[show lO a=false from tP (by rw[show a.ah.length=i.k by omega];exact i.hu) (m.stop (by omega) hq)];rfl
  have k15:=c15
  try simp only[ai]at c15
  have hq:jC a i.u m.k=true:=by
   have hk:=k15;simp only[jC]
   first|exact(congrArg (! ·) hk).trans rfl|simpa using hk
  refine go [.J,.R1,.b,.N,.m,.Z] (k:=?_);refine⟨⟨m.k+1,by omega,m.next hq⟩,ws,?_⟩;show 16-(m.k+1)<16-m.k;omega
 try simp only[ai]at c14
 refine AW.exit ?_;dsimp only[aJ,ay,reduceIte];refine go [.R,.f,.l,.N] (k:=?_);refine cv Tryz.call84 rfl rfl (pC Tryz.call85 (λx=>w6 x) _) ?_;refine go [.N,.n,.a,.Z] (k:=?_);refine aM 2 ?_;rw[show lO a=a.ao.all (λp=>fg p.bn)from mH hsh hU hH (by rw[show a.ah.length=i.k by omega];exact i.hu) (m.full (by omega)),BD,Bool.not_not];rfl
open Go Go.RowKit Go.Proofs
theorem oj(a:bH):bf Tryz.prog 4 [.g [.v (iv a.Next), .v (iv a.bF), .h aa [], .h (aa+1) [], .h (aa+2) [], .h (aa+3) [], .h (aa+4) [], .h (aa+5) [], .h (aa+6) [], .h (aa+7) [], .h (aa+8) []]] [.rt aa .ro (tr a.aV), .rt (aa+1) .ro (tr a.ah), .rt (aa+2) .ro (tr a.fb), .rt (aa+3) .ro (tr a.Heap.aU), .rt (aa+4) .ro (tr a.ax), .rt (aa+5) .ro (tr a.ao), .rt (aa+6) .ro (tr a.aC), .rt (aa+7) .ro (tr a.aR), .rt (aa+8) .ro (tr a.Out)] (λy _=>y= .v (.bool true)):=by
 refine ob Tryz.func4 Tryz.ntmps4 ?_;refine go [.R,.B,.N,.a,.Z,.R,.a,.Z,.R,.G,.N,.m] (k:=?_);refine cv Tryz.call6 rfl rfl (td _ _ (by first|omega|(repeat (first|omega|apply dL))) (by first|omega|(repeat (first|omega|apply dM)))) ?_;refine go [.N,.a,.Z,.R2,.m,.b,.Z] (k:=?_);refine cd (λc1=>?_) λc1=>?_
 ·try simp only[ai]at c1
  refine go [.R,.a,.Z] (k:=?_);refine aM 2 ?_
  first|rfl|(exfalso;simp_all;done)
 try simp only[ai]at c1
 have hw:Mk.wt a≤1048576:=by simp only[ia]at c1;omega
 refine go [.J,.R,.G,.N] (k:=?_);refine sp (aK.bV rfl (by decide) Tryz.call8 rfl rfl (ki _ (by first|omega|(simp only[Int.toNat_natCast];omega)|(simp only[Mk.wt]at *; omega))) (ak rfl) rfl rfl) ?_;refine go [.N] (k:=?_);refine cv Tryz.call15 rfl rfl (xu _ hw) ?_;refine go [.N,.a,.Z,.R,.G] (k:=?_);refine sp (aK.bV rfl (by decide) Tryz.call8 rfl rfl (ki _ (by first|omega|(simp only[Int.toNat_natCast];omega)|(simp only[Mk.wt]at *; omega))) (ak rfl) rfl rfl) ?_;refine go [.N,.A,.N,.s,.Z,.R,.G,.N] (k:=?_);refine cv Tryz.call16 rfl rfl (xd _ hw) ?_;refine go [.N,.a,.Z,.R2,.m,.m,.N] (k:=?_);refine qq (Qt.Bl rfl rfl Tryz.underlying4) ?_;refine go [.Z] (k:=?_);refine AW.cond rfl (λc2=>(by exfalso;first|(simp at c2;done)|(simp only[decide_eq_true_eq]at c2;omega))) (λc2=>?_);refine jd (AW.seq (AW.seq ?_));refine go [.D [0,1,4],.t 0,.G,.t 1,.G,.N] (k:=?_);refine a1 2 [0] [1] rfl rfl (aK.bV rfl (by decide) Tryz.call8 rfl rfl (ki _ (by first|omega|(simp only[Int.toNat_natCast];omega)|(simp only[Mk.wt]at *; omega))) (ak rfl) rfl rfl) ?_;refine go [.N,.g,.G,.N] (k:=?_);refine a1 3 [] [2,0,1] rfl rfl (aK.aL rfl (by decide) Tryz.call11 rfl rfl (s_ _ _)) ?_;refine go [.N,.t 4,.n,.Z] (k:=?_);refine AW.cond rfl (λc3=>(by exfalso;first|(simp at c3;done)|(simp only[decide_eq_true_eq]at c3;omega))) (λc3=>?_);refine go [.J,.R,.a,.Z] (k:=?_);refine aM 2 ?_
 first|rfl|(exfalso;simp_all;done)
end Go.Proofs.YtekcnnngjoonbaaGreat.VM

