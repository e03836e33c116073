/- Contracts. No conditions. -/
import Derived.Test.YtekcnnngjoonbaaGreatWQ
import Derived.Test.YtekcnnngjoonbaaGreatWR
import Derived.Test.YtekcnnngjoonbaaGreatWk
import Derived.Test.YtekcnnngjoonbaaGreatWl
import Derived.Test.YtekcnnngjoonbaaGreatWq
import Derived.Test.YtekcnnngjoonbaaGreatWu
import Derived.Test.YtekcnnngjoonbaaGreatWv
set_option linter.all false
set_option maxHeartbeats 8000000
set_option maxRecDepth 10000
namespace Go.Proofs.YtekcnnngjoonbaaGreat.VM
open List Nat
open Go Go.RowKit Go.Proofs Go.Proofs.Tryz
theorem zo(a:bC)(hw:Mk.wt a≤1048576):a_ prog 16 [.g [.v (iv a.Next),.v (iv a.bp),.h aa [],.h (aa+1) [],.h (aa+2) [],.h (aa+3) [],.h (aa+4) [],.h (aa+5) [],.h (aa+6) [],.h (aa+7) [],.h (aa+8) []]] [.rt aa .ro (tr a.aP),.rt (aa+1) .ro (tr a.ag),.rt (aa+2) .ro (tr a.fx),.rt (aa+3) .ro (tr a.Heap.aZ),.rt (aa+4) .ro (tr a.ao),.rt (aa+5) .ro (tr a.ak),.rt (aa+6) .ro (tr a.ay),.rt (aa+7) .ro (tr a.aN),.rt (aa+8) .ro (tr a.Out)] (λy _=>y= .v (.bool (j8 a))):=by
 refine ob func16 ntmps16 ?_;refine AW.len (aa+1) [] rfl (by simp[bT]) rfl (λhl1=>?_);refine go [.R,.B,.N,.a,.Z,.R2,.G] ?_;refine cv call35 rfl rfl (m5 a) ?_;refine go [.N,.n,.m] ?_;refine aB.split 13 rfl (λg1=>?_) (λg1=>?_)
 ·have eg1:=g1
  try simp only[ah]at eg1
  refine go [.x,.x,.x,.x] ?_;refine qq (Qt.bj rfl g1) ?_;refine go [.N,.m] ?_;apply aB.cut 4
  ·intro Kg2;refine aB.bq 19 rfl (λg2=>?_) (λg2=>?_)
   ·have eg2:=g2
    try simp only[ah]at eg2
    refine go [.f,.G,.N] ?_;refine aB.step rfl (nF g2) (aE.aC rfl (by decide) call82 rfl rfl (lT a.Heap)) ?_;refine go [.N,.n] ?_;exact bV 23 [20,21,22,23] (bU g2 _ undef) Kg2
   ·refine go [.x,.x,.x,.x] ?_;exact bX 23 [20,21,22,23] (bY g2 undef _) Kg2
  refine qq (Qt.br rfl rfl rfl) ?_;refine go [.Z] ?_;refine AW.cond rfl (λc3=>?_) (λc3=>(by exfalso;first|(cases c3;done)|(simp at c3;done)|(simp only[ah]at c3;omega)))
  try simp only[ah]at c3
  have hsh:cN a=false:=by simpa using g1
  refine go [.R,.a,.Z] ?_;refine aQ 2 ?_;rw[show j8 a=false from p9 hsh];rfl
 have eg1:=g1
 try simp only[ah]at eg1
 refine go [.G] ?_;have hsh:cN a=true:=by simpa using g1
 have hS:=yf hsh;refine go [.N] ?_;refine aB.step rfl (nF g1) (aE.bP rfl (by decide) call9 rfl rfl (qx a hw) (aj rfl) rfl rfl) ?_;refine go [.N] ?_;refine aB.step rfl (nF g1) (aE.aC rfl (by decide) call81 rfl rfl (nq (mo a) (by rw[ld hsh];exact lv hw))) ?_;refine go [.N,.n] ?_;refine qq (Qt.bd rfl g1) ?_;refine go [.m,.N] ?_;apply aB.cut 4
 ·intro Kg4;refine aB.bq 19 rfl (λg4=>?_) (λg4=>?_)
  ·have eg4:=g4
   try simp only[ah]at eg4
   refine go [.f,.G] ?_;refine aB.step rfl (nF g4) (aE.aC rfl (by decide) call82 rfl rfl (lT a.Heap)) ?_;refine go [.N,.n] ?_;exact bV 23 [20,21,22,23] (bU g4 _ undef) Kg4
  ·refine go [.x,.x,.x,.x] ?_;exact bX 23 [20,21,22,23] (bY g4 undef _) Kg4
 refine qq (Qt.br rfl rfl rfl) ?_;refine go [.Z] ?_;refine cd (λc5=>?_) λc5=>?_
 ·have k5:=c5
  try simp only[ah]at c5
  have hbad:j8 a=false:=by
   have hk:=k5;rw[ld hsh,BE]at hk;simp only[Bool.or_eq_true,Bool.not_eq_true']at hk;rcases hk with hk|hk
   ·exact vc hk
   ·exact tZ hk
  refine go [.R,.a,.Z] ?_;refine aQ 2 ?_;rw[hbad];rfl
 have k5:=c5
 try simp only[ah]at c5
 have hUH:cy (fe a)=true∧sD a.Heap.aZ=true:=by
  have hk:=k5;rw[ld hsh,BE]at hk;simpa using hk
 obtain⟨hU,hH⟩:=hUH;refine go [.J,.R] ?_;refine sp (aE.makeSlice rfl (by decide) (by decide) rfl rfl (by omega) (by omega) (by omega)) ?_;refine go [.N,.a,.Z,.R2,.f,.l,.N,.h,.m,.Z] ?_;refine AW.block ?_;refine AW.aL (λi:De a=>(.sl 29 (.v (iv i.k)) :: .sl 28 (.v (iv a.ag.length)) :: .sl 27 (.h (aa+1) []) :: .sl 3 (.h 25 []) :: .rt 1 .box (T.s 11 1 λk c=>([(T.v (iv a.Next),none),(T.v (iv a.bp),none),(T.j,none),(T.j,none),(T.j,none),(T.j,none),(T.j,none),(T.j,none),(T.j,none),(T.j,none),(T.j,none)].getD (k*11+c) (T.j,none)).fst) :: .al 1 2 (.h aa []) :: .al 1 3 (.h (aa+1) []) :: .al 1 4 (.h (aa+2) []) :: .al 1 5 (.h (aa+3) []) :: .al 1 6 (.h (aa+4) []) :: .al 1 7 (.h (aa+5) []) :: .al 1 8 (.h (aa+6) []) :: .al 1 9 (.h (aa+7) []) :: .al 1 10 (.h (aa+8) []) :: .rt aa .ro (tr a.aP) :: .rt (aa+1) .ro (tr a.ag) :: .rt (aa+2) .ro (tr a.fx) :: .rt (aa+3) .ro (tr a.Heap.aZ) :: .rt (aa+4) .ro (tr a.ao) :: .rt (aa+5) .ro (tr a.ak) :: .rt (aa+6) .ro (tr a.ay) :: .rt (aa+7) .ro (tr a.aN) :: .rt (aa+8) .ro (tr a.Out) :: .sl 1 (.p 1 [] 11 0 0) :: .rt 25 .row (tr i.u) :: [])) (λi=>a.ag.length-i.k) ⟨0,zero_le _,replicate 16 false,rfl,by simp⟩ (ar.bb ⟨rfl,rfl,rfl,rfl,Rf rfl,⟨rfl,rfl⟩,⟨rfl,rfl⟩,⟨rfl,rfl⟩,⟨rfl,rfl⟩,⟨rfl,rfl⟩,⟨rfl,rfl⟩,⟨rfl,rfl⟩,⟨rfl,rfl⟩,⟨rfl,rfl⟩,Rf rfl,Rf rfl,Rf rfl,Rf rfl,Rf rfl,Rf rfl,Rf rfl,Rf rfl,Rf rfl,rfl,⟨_,rfl,nP 16⟩,trivial⟩ rfl rfl) ?_;intro i;have hle:=i.le;have hln:=i.ln;refine go [.R,.b,.Z] ?_;refine AW.seq ?_;refine cd (λc6=>?_) λc6=>?_
 ·try simp only[ah]at c6
  refine jd (AW.seq (AW.block (sr ?_)));refine go [.m,.N,.i,.G,.A,.N,.a,.s,.Z] ?_;refine AW.seq (AW.seq ?_);refine go [.D [0,1,2,3,4,5,6,7,8,9,10,11,12,13],.t 0,.m,.N,.t 1,.b,.t 2,.m] ?_;refine aO.split 36 rfl (λg7=>?_) (λg7=>?_)
  ·refine go [.t 3,.f,.N,.t 4,.l,.t 5,.m,.t 6,.b,.N,.t 7,.i,.t 8,.f,.t 9,.l,.N,.t 10,.f,.t 11,.l,.t 12,.b,.N] ?_;refine tk 13 rfl (Qt.bj rfl g7) ?_;refine go [.Z] ?_;refine cd (λc8=>?_) λc8=>?_
   ·have k8:=c8
    try simp only[ah]at c8
    have hup:wz a i.k=true:=by
     have hk:=k8;have e1:0<i.k→((i.k:Int)-1).toNat=i.k-1:=λ_=>by omega
     try rw[e1 (by omega)]at hk
     simp only[wz]
     grind
    refine go [.R,.a,.Z] ?_;refine aQ 2 ?_;rw[show j8 a=false from jB (k:=i.k+1) ((eH i.hu).trans (Ah hup)) (by omega)];rfl
   have k8:=c8
   try simp only[ah]at c8
   have hup:wz a i.k=false:=by
    have hk:=k8;have e1:0<i.k→((i.k:Int)-1).toNat=i.k-1:=λ_=>by omega
    try rw[e1 (by omega)]at hk
    simp only[wz]
    grind
   refine go [.J,.R,.f,.N,.l,.h,.m,.Z] ?_;refine AW.block ?_;refine AW.aL (λj:pY (a.ag.getD i.k En.ab).bf i.u=>(.sl 51 (.v (iv j.k)) :: .sl 50 (.v (iv (a.ag.getD i.k En.ab).bf.length)) :: .sl 49 (.h (aa+1) [(10,i.k,6)]) :: .sl 29 (.v (iv i.k)) :: .sl 28 (.v (iv a.ag.length)) :: .sl 27 (.h (aa+1) []) :: .sl 3 (.h 25 []) :: .rt 1 .box (T.s 11 1 λk c=>([(T.v (iv a.Next),none),(T.v (iv a.bp),none),(T.j,none),(T.j,none),(T.j,none),(T.j,none),(T.j,none),(T.j,none),(T.j,none),(T.j,none),(T.j,none)].getD (k*11+c) (T.j,none)).fst) :: .al 1 2 (.h aa []) :: .al 1 3 (.h (aa+1) []) :: .al 1 4 (.h (aa+2) []) :: .al 1 5 (.h (aa+3) []) :: .al 1 6 (.h (aa+4) []) :: .al 1 7 (.h (aa+5) []) :: .al 1 8 (.h (aa+6) []) :: .al 1 9 (.h (aa+7) []) :: .al 1 10 (.h (aa+8) []) :: .rt aa .ro (tr a.aP) :: .rt (aa+1) .ro (tr a.ag) :: .rt (aa+2) .ro (tr a.fx) :: .rt (aa+3) .ro (tr a.Heap.aZ) :: .rt (aa+4) .ro (tr a.ao) :: .rt (aa+5) .ro (tr a.ak) :: .rt (aa+6) .ro (tr a.ay) :: .rt (aa+7) .ro (tr a.aN) :: .rt (aa+8) .ro (tr a.Out) :: .sl 1 (.p 1 [] 11 0 0) :: .rt 25 .row (tr j.v) :: [])) (λj=>(a.ag.getD i.k En.ab).bf.length-j.k) ⟨0,zero_le _,i.u,rfl,i.ln⟩ (ws) ?_;intro j;have hlej:=j.le;have hjn:=j.ln;refine AW.len (aa+1) [(10,i.k,6)] rfl (by refine⟨rfl,?_,by decide,trivial⟩;show i.k<a.ag.length;omega) rfl (λhlp=>?_);refine go [.R,.b,.Z] ?_;refine AW.seq ?_;refine cd (λc9=>?_) λc9=>?_
   ·try simp only[ah]at c9
    have hfr:=hS.fr i.k (by omega) j.k (by omega);refine jd (AW.seq (AW.block (sr ?_)));refine go [.i,.N,.l,.a,.Z,.R2,.m,.N,.m,.i,.l,.Z] ?_;refine cd (λc10=>?_) λc10=>?_
    ·have k10:=c10
     try simp only[ah]at c10
     have hun:j.v.getD ((a.ag.getD i.k En.ab).bf.getD j.k En.ab).toNat En.ab=true:=by first|exact c10|simpa using k10
     refine go [.R,.a,.Z] ?_;refine aQ 2 ?_;rw[show j8 a=false from jB (k:=i.k+1) ((eH i.hu).trans ((ka hup).trans (j.bad (by omega) hun))) (by omega)];rfl
    have k10:=c10
    try simp only[ah]at c10
    have hun:j.v.getD ((a.ag.getD i.k En.ab).bf.getD j.k En.ab).toNat En.ab=false:=by first|exact c10|simpa using k10
    refine go [.J,.R1,.m,.N,.m,.i,.s,.Z,.R1,.b,.N,.m,.Z] ?_;refine⟨⟨j.k+1,by omega,j.v.set ((a.ag.getD i.k En.ab).bf.getD j.k En.ab).toNat true,j.mark hun,by rw[length_set];exact j.ln⟩,ar.bb ⟨ew,rfl,rfl,rfl,rfl,rfl,rfl,Rf rfl,⟨rfl,rfl⟩,⟨rfl,rfl⟩,⟨rfl,rfl⟩,⟨rfl,rfl⟩,⟨rfl,rfl⟩,⟨rfl,rfl⟩,⟨rfl,rfl⟩,⟨rfl,rfl⟩,⟨rfl,rfl⟩,Rf rfl,Rf rfl,Rf rfl,Rf rfl,Rf rfl,Rf rfl,Rf rfl,Rf rfl,Rf rfl,rfl,⟨_,rfl,(bG (λk c hk=>by simp only[ai,hk,false_and,if_false];try rfl) (λc hc=>match c,hc with|0,_=>(by simp only[ai,eq_self,and_self,if_true];exact aw)|c+1,hc=>absurd hc (by simp only[En.n];omega)))⟩,trivial⟩ rfl rfl,?_⟩;show(a.ag.getD i.k En.ab).bf.length-(j.k+1)<(a.ag.getD i.k En.ab).bf.length-j.k;omega
   try simp only[ah]at c9
   refine AW.exit ?_;dsimp only[aD,au,reduceIte];refine go [.R1,.b,.m,.Z] ?_;refine⟨⟨i.k+1,by omega,j.v,(eH i.hu).trans ((ka hup).trans (j.full (by omega))),j.ln⟩,ws,?_⟩;show a.ag.length-(i.k+1)<a.ag.length-i.k;omega
  refine go [.t 3,.x,.N,.t 4,.x,.t 5,.x,.t 6,.x,.N,.t 7,.x,.t 8,.x,.t 9,.x,.N,.t 10,.x,.t 11,.x,.t 12,.x,.N] ?_;refine tk 13 rfl (Qt.bd rfl g7) ?_;refine go [.Z] ?_;refine AW.cond rfl (λc11=>(by exfalso;first|(cases c11;done)|(simp at c11;done)|(simp only[ah]at c11;omega))) (λc11=>?_);have k11:=c11
  try simp only[ah]at c11
  have hup:wz a i.k=false:=by
   have hk:=k11;have e1:0<i.k→((i.k:Int)-1).toNat=i.k-1:=λ_=>by omega
   try rw[e1 (by omega)]at hk
   simp only[wz]
   grind
  refine go [.J,.R,.f,.l,.N,.h,.m,.Z] ?_;refine AW.block ?_;refine AW.aL (λj:pY (a.ag.getD i.k En.ab).bf i.u=>(.sl 51 (.v (iv j.k)) :: .sl 50 (.v (iv (a.ag.getD i.k En.ab).bf.length)) :: .sl 49 (.h (aa+1) [(10,i.k,6)]) :: .sl 29 (.v (iv i.k)) :: .sl 28 (.v (iv a.ag.length)) :: .sl 27 (.h (aa+1) []) :: .sl 3 (.h 25 []) :: .rt 1 .box (T.s 11 1 λk c=>([(T.v (iv a.Next),none),(T.v (iv a.bp),none),(T.j,none),(T.j,none),(T.j,none),(T.j,none),(T.j,none),(T.j,none),(T.j,none),(T.j,none),(T.j,none)].getD (k*11+c) (T.j,none)).fst) :: .al 1 2 (.h aa []) :: .al 1 3 (.h (aa+1) []) :: .al 1 4 (.h (aa+2) []) :: .al 1 5 (.h (aa+3) []) :: .al 1 6 (.h (aa+4) []) :: .al 1 7 (.h (aa+5) []) :: .al 1 8 (.h (aa+6) []) :: .al 1 9 (.h (aa+7) []) :: .al 1 10 (.h (aa+8) []) :: .rt aa .ro (tr a.aP) :: .rt (aa+1) .ro (tr a.ag) :: .rt (aa+2) .ro (tr a.fx) :: .rt (aa+3) .ro (tr a.Heap.aZ) :: .rt (aa+4) .ro (tr a.ao) :: .rt (aa+5) .ro (tr a.ak) :: .rt (aa+6) .ro (tr a.ay) :: .rt (aa+7) .ro (tr a.aN) :: .rt (aa+8) .ro (tr a.Out) :: .sl 1 (.p 1 [] 11 0 0) :: .rt 25 .row (tr j.v) :: [])) (λj=>(a.ag.getD i.k En.ab).bf.length-j.k) ⟨0,zero_le _,i.u,rfl,i.ln⟩ (ws) ?_;intro j;have hlej:=j.le;have hjn:=j.ln;refine AW.len (aa+1) [(10,i.k,6)] rfl (by refine⟨rfl,?_,by decide,trivial⟩;show i.k<a.ag.length;omega) rfl (λhlp=>?_);refine go [.R,.b,.Z] ?_;refine AW.seq ?_;refine cd (λc12=>?_) λc12=>?_
  ·try simp only[ah]at c12
   have hfr:=hS.fr i.k (by omega) j.k (by omega);refine jd (AW.seq (AW.block (sr ?_)));refine go [.i,.N,.l,.a,.Z,.R2,.m,.N,.m,.i,.l,.Z] ?_;refine cd (λc13=>?_) λc13=>?_
   ·have k13:=c13
    try simp only[ah]at c13
    have hun:j.v.getD ((a.ag.getD i.k En.ab).bf.getD j.k En.ab).toNat En.ab=true:=by first|exact c13|simpa using k13
    refine go [.R,.a,.Z] ?_;refine aQ 2 ?_;rw[show j8 a=false from jB (k:=i.k+1) ((eH i.hu).trans ((ka hup).trans (j.bad (by omega) hun))) (by omega)];rfl
   have k13:=c13
   try simp only[ah]at c13
   have hun:j.v.getD ((a.ag.getD i.k En.ab).bf.getD j.k En.ab).toNat En.ab=false:=by first|exact c13|simpa using k13
   refine go [.J,.R1,.m,.N,.m,.i,.s,.Z,.R1,.b,.N,.m,.Z] ?_;refine⟨⟨j.k+1,by omega,j.v.set ((a.ag.getD i.k En.ab).bf.getD j.k En.ab).toNat true,j.mark hun,by rw[length_set];exact j.ln⟩,ar.bb ⟨ew,rfl,rfl,rfl,rfl,rfl,rfl,Rf rfl,⟨rfl,rfl⟩,⟨rfl,rfl⟩,⟨rfl,rfl⟩,⟨rfl,rfl⟩,⟨rfl,rfl⟩,⟨rfl,rfl⟩,⟨rfl,rfl⟩,⟨rfl,rfl⟩,⟨rfl,rfl⟩,Rf rfl,Rf rfl,Rf rfl,Rf rfl,Rf rfl,Rf rfl,Rf rfl,Rf rfl,Rf rfl,rfl,⟨_,rfl,(bG (λk c hk=>by simp only[ai,hk,false_and,if_false];try rfl) (λc hc=>match c,hc with|0,_=>(by simp only[ai,eq_self,and_self,if_true];exact aw)|c+1,hc=>absurd hc (by simp only[En.n];omega)))⟩,trivial⟩ rfl rfl,?_⟩;show(a.ag.getD i.k En.ab).bf.length-(j.k+1)<(a.ag.getD i.k En.ab).bf.length-j.k;omega
  try simp only[ah]at c12
  refine AW.exit ?_;dsimp only[aD,au,reduceIte];refine go [.R1,.b,.m,.Z] ?_;refine⟨⟨i.k+1,by omega,j.v,(eH i.hu).trans ((ka hup).trans (j.full (by omega))),j.ln⟩,ws,?_⟩;show a.ag.length-(i.k+1)<a.ag.length-i.k;omega
 try simp only[ah]at c6
 refine AW.exit ?_;dsimp only[aD,au,reduceIte];refine go [.R2,.m,.N,.h,.m,.Z] ?_;refine AW.block ?_;refine AW.aL (λm:q_ (jJ a i.u) 16=>(.sl 66 (.v (iv m.k)) :: .sl 65 (.v (iv i.u.length)) :: .sl 64 (.h 25 []) :: .sl 3 (.h 25 []) :: .rt 1 .box (T.s 11 1 λk c=>([(T.v (iv a.Next),none),(T.v (iv a.bp),none),(T.j,none),(T.j,none),(T.j,none),(T.j,none),(T.j,none),(T.j,none),(T.j,none),(T.j,none),(T.j,none)].getD (k*11+c) (T.j,none)).fst) :: .al 1 2 (.h aa []) :: .al 1 3 (.h (aa+1) []) :: .al 1 4 (.h (aa+2) []) :: .al 1 5 (.h (aa+3) []) :: .al 1 6 (.h (aa+4) []) :: .al 1 7 (.h (aa+5) []) :: .al 1 8 (.h (aa+6) []) :: .al 1 9 (.h (aa+7) []) :: .al 1 10 (.h (aa+8) []) :: .rt aa .ro (tr a.aP) :: .rt (aa+1) .ro (tr a.ag) :: .rt (aa+2) .ro (tr a.fx) :: .rt (aa+3) .ro (tr a.Heap.aZ) :: .rt (aa+4) .ro (tr a.ao) :: .rt (aa+5) .ro (tr a.ak) :: .rt (aa+6) .ro (tr a.ay) :: .rt (aa+7) .ro (tr a.aN) :: .rt (aa+8) .ro (tr a.Out) :: .sl 1 (.p 1 [] 11 0 0) :: .rt 25 .row (tr i.u) :: [])) (λm=>16-m.k) ⟨0,by omega,λx h=>absurd h (by omega)⟩ (ws) ?_;intro m;have hlem:=m.le;refine go [.R,.b,.Z] ?_;refine AW.seq ?_;refine cd (λc14=>?_) λc14=>?_
 ·try simp only[ah]at c14
  refine jd (AW.seq (AW.block (sr ?_)));refine go [.m,.N,.i,.l,.a,.N,.a,.Z,.R,.m,.f,.N,.G,.m] ?_;refine cv call83 rfl rfl (vY a.Heap (m.k:Nat) (wZ hH) (by rw[jw];omega)) ?_;refine go [.N] ?_;refine qq (Qt.Dp rfl rfl underlying4) ?_;refine go [.Z] ?_;refine cd (λc15=>?_) λc15=>?_
  ·have k15:=c15
   try simp only[ah]at c15
   have hq:jJ a i.u m.k=false:=by
    have hk:=k15;simp only[jJ]
    first|exact(congrArg (! ·) hk).trans rfl|simpa using hk
   refine go [.R,.a,.Z] ?_;refine aQ 2 ?_;rw[show j8 a=false from sR (by rw[show a.ag.length=i.k by omega];exact i.hu) (m.stop (by omega) hq)];rfl
  have k15:=c15
  try simp only[ah]at c15
  have hq:jJ a i.u m.k=true:=by
   have hk:=k15;simp only[jJ]
   first|exact(congrArg (! ·) hk).trans rfl|simpa using hk
  refine go [.J,.R1,.b,.N,.m,.Z] ?_;refine⟨⟨m.k+1,by omega,m.next hq⟩,ws,?_⟩;show 16-(m.k+1)<16-m.k;omega
 try simp only[ah]at c14
 refine AW.exit ?_;dsimp only[aD,au,reduceIte];refine go [.R,.f,.l,.N] ?_;refine cv call84 rfl rfl (qZ call85 (λx=>Ak x) _) ?_;refine go [.N,.n,.a,.Z] ?_;refine aQ 2 ?_;rw[show j8 a=a.ak.all (λp=>fh p.bo)from mJ hsh hU hH (by rw[show a.ag.length=i.k by omega];exact i.hu) (m.full (by omega)),D5,Bool.not_not];rfl
open Go Go.RowKit Go.Proofs Go.Proofs.Tryz
def zD(kind s:ByteArray):ByteArray:=(kind++l7 (nN s).toNat 4)++s
def xE(a:bC):ByteArray:=if j8 a=true then zD ⟨#[66]⟩ (dn (fe a))else ByteArray.empty
theorem nj{u:aX}(h:k9 u):(dn u).size≤1000000:=by
 have h1:=jH h (Nat.le_refl _);have h2:=cl u.Out;have h3:=h.out;rw[dn,ByteArray.size_append];omega
theorem u_(x:Int):(l7 x.toNat 4).size=4:=mI _ _
theorem A4{u:aX}(h:cy u=true):xA u=dn u:=if_pos h
theorem qQ{a:bC}(h:j8 a=true):cN a=true∧cy (fe a)=true:=by
 unfold j8 at h;rw[Bool.and_eq_true,Bool.and_eq_true]at h;exact⟨h.1,h.2.1⟩
theorem sP(x:Int)(h:0≤x∧x≤4294967295):a_ prog 159 [.v (.int .i64 x),.v (iv 4)] [] (λy _=>y= .v (.string (l7 x.toNat 4))):=by
 obtain⟨n,rfl⟩:=Int.eq_ofNat_of_zero_le h.1;exact vR n (by omega)
theorem uT(x:Int)(h:0≤x∧x≤4294967295):a_ prog 162 [.v (.int .i64 x),.v (iv 4)] [] (λy _=>y= .v (.string (l7 x.toNat 4))):=by
 obtain⟨n,rfl⟩:=Int.eq_ofNat_of_zero_le h.1;exact vP n (by omega)
theorem rR(kind:ByteArray)(u:aX)(hk:kind.size≤10)(hF:k9 u):a_ prog 87 [.v (.string kind),.g [.v (iv u.Next),.v (iv u.bp),.h aa [],.h (aa+1) [],.h (aa+2) [],.h (aa+3) [],.h (aa+4) [],.h (aa+5) [],.h (aa+6) []]] [.rt aa .ro (tr u.aP),.rt (aa+1) .ro (tr u.ag),.rt (aa+2) .ro (tr u.ao),.rt (aa+3) .ro (tr u.ak),.rt (aa+4) .ro (tr u.ay),.rt (aa+5) .ro (tr u.aN),.rt (aa+6) .ro (tr u.Out)] (λy _=>y= .v (.string (zD kind (dn u)))):=by
 refine ob func87 ntmps87 ?_;have hsz:=nj hF;have hcf:=xj (dn u);have hfs:=u_ (nN (dn u));refine go [.R,.B,.N,.a,.Z,.R,.G] ?_;refine cv call158 rfl rfl (tY u hF) ?_;refine go [.N,.a,.Z,.R,.m,.m,.N] ?_;refine cv call160 rfl rfl (zG (dn u) (by omega)) ?_;refine go [.N] ?_;refine cv call159 rfl rfl (sP (nN (dn u)) hcf) ?_;refine go [.N] ?_;refine qq (Qt.binOp rfl rfl (qe (by omega))) ?_;refine go [.m] ?_;refine qq (Qt.binOp rfl rfl (qe (by rw[ByteArray.size_append];omega))) ?_;refine go [.N,.a,.Z] ?_;refine aQ 4 ?_;rfl
theorem x_(kind:ByteArray)(u:aX)(hk:kind.size≤10)(hb:il u)(hU:cy u=true):a_ prog 88 [.v (.string kind),.g [.v (iv u.Next),.v (iv u.bp),.h aa [],.h (aa+1) [],.h (aa+2) [],.h (aa+3) [],.h (aa+4) [],.h (aa+5) [],.h (aa+6) []]] [.rt aa .ro (tr u.aP),.rt (aa+1) .ro (tr u.ag),.rt (aa+2) .ro (tr u.ao),.rt (aa+3) .ro (tr u.ak),.rt (aa+4) .ro (tr u.ay),.rt (aa+5) .ro (tr u.aN),.rt (aa+6) .ro (tr u.Out)] (λy _=>y= .v (.string (zD kind (dn u)))):=by
 refine ob func88 ntmps88 ?_;have hF:=oB hU;have hsz:=nj hF;have hcf:=xj (dn u);have hfs:=u_ (nN (dn u));refine go [.R,.B,.N,.a,.Z,.R,.G] ?_;refine cv call161 rfl rfl (pU u hb) ?_;refine go [.N] ?_;refine aB.bS (ar.slot (d:=7) (v':= .string (dn u)) rfl (by rw[A4 hU])) ?_;refine go [.N,.a,.Z,.R,.m,.m,.N] ?_;refine cv call163 rfl rfl (yL (dn u) (by omega)) ?_;refine go [.N] ?_;refine cv call162 rfl rfl (uT (nN (dn u)) hcf) ?_;refine go [.N] ?_;refine qq (Qt.binOp rfl rfl (qe (by omega))) ?_;refine go [.m] ?_;refine qq (Qt.binOp rfl rfl (qe (by rw[ByteArray.size_append];omega))) ?_;refine go [.N,.a,.Z] ?_;refine aQ 4 ?_;rfl
theorem tQ(a:bC)(hw:Mk.wt a≤1048576):a_ prog 17 [.g [.v (iv a.Next),.v (iv a.bp),.h aa [],.h (aa+1) [],.h (aa+2) [],.h (aa+3) [],.h (aa+4) [],.h (aa+5) [],.h (aa+6) [],.h (aa+7) [],.h (aa+8) []]] [.rt aa .ro (tr a.aP),.rt (aa+1) .ro (tr a.ag),.rt (aa+2) .ro (tr a.fx),.rt (aa+3) .ro (tr a.Heap.aZ),.rt (aa+4) .ro (tr a.ao),.rt (aa+5) .ro (tr a.ak),.rt (aa+6) .ro (tr a.ay),.rt (aa+7) .ro (tr a.aN),.rt (aa+8) .ro (tr a.Out)] (λy _=>y= .v (.string (xE a))):=by
 refine ob func17 ntmps17 ?_;refine go [.R,.B,.N,.a,.Z,.R2,.G] ?_;refine cv call15 rfl rfl (yV a hw) ?_;refine go [.N,.n,.Z] ?_;refine cd (λc1=>?_) λc1=>?_
 ·have k1:=c1
  try simp only[ah]at c1
  have hok:j8 a=false:=by simpa using k1
  refine go [.R,.a,.Z] ?_;refine aQ 2 ?_;rw[show xE a=ByteArray.empty from if_neg (by rw[hok];simp)];rfl
 have k1:=c1
 try simp only[ah]at c1
 have hok:j8 a=true:=by simpa using k1
 have hpt:=qQ hok;have hS:=yf hpt.1;refine go [.J,.R,.G,.N] ?_;refine sp (aE.bP rfl (by decide) call27 rfl rfl (pb a hS hw) (aj rfl) rfl rfl) ?_;refine go [.N] ?_;refine cv call87 rfl rfl (rR ⟨#[66]⟩ (fe a) (by decide) (oB hpt.2)) ?_;refine go [.N,.a,.Z] ?_;refine aQ 2 ?_;rw[show xE a=zD ⟨#[66]⟩ (dn (fe a))from if_pos hok];rfl
theorem uO(a:bC)(hw:Mk.wt a≤1048576):a_ prog 18 [.g [.v (iv a.Next),.v (iv a.bp),.h aa [],.h (aa+1) [],.h (aa+2) [],.h (aa+3) [],.h (aa+4) [],.h (aa+5) [],.h (aa+6) [],.h (aa+7) [],.h (aa+8) []]] [.rt aa .ro (tr a.aP),.rt (aa+1) .ro (tr a.ag),.rt (aa+2) .ro (tr a.fx),.rt (aa+3) .ro (tr a.Heap.aZ),.rt (aa+4) .ro (tr a.ao),.rt (aa+5) .ro (tr a.ak),.rt (aa+6) .ro (tr a.ay),.rt (aa+7) .ro (tr a.aN),.rt (aa+8) .ro (tr a.Out)] (λy _=>y= .v (.string (xE a))):=by
 refine ob func18 ntmps18 ?_;refine go [.R,.B,.N,.a,.Z,.R2,.G] ?_;refine cv call16 rfl rfl (zo a hw) ?_;refine go [.N,.n,.Z] ?_;refine cd (λc1=>?_) λc1=>?_
 ·have k1:=c1
  try simp only[ah]at c1
  have hok:j8 a=false:=by simpa using k1
  refine go [.R,.a,.Z] ?_;refine aQ 2 ?_;rw[show xE a=ByteArray.empty from if_neg (by rw[hok];simp)];rfl
 have k1:=c1
 try simp only[ah]at c1
 have hok:j8 a=true:=by simpa using k1
 have hpt:=qQ hok;have hS:=yf hpt.1;refine go [.J,.R,.G,.N] ?_;refine sp (aE.bP rfl (by decide) call9 rfl rfl (qx a hw) (aj rfl) rfl rfl) ?_;refine go [.N] ?_;refine cv call88 rfl rfl (x_ ⟨#[66]⟩ (mo a) (by decide) (by rw[ld hpt.1];exact lv hw) (by rw[ld hpt.1];exact hpt.2)) ?_;refine go [.N,.a,.Z] ?_;refine aQ 2 ?_;rw[show xE a=zD ⟨#[66]⟩ (dn (mo a))from by rw[ld hpt.1];exact if_pos hok];rfl
open Go Go.RowKit Go.Proofs Go.Proofs.Tryz
theorem my(a:bC):a_ prog 5 [.g [.v (iv a.Next),.v (iv a.bp),.h aa [],.h (aa+1) [],.h (aa+2) [],.h (aa+3) [],.h (aa+4) [],.h (aa+5) [],.h (aa+6) [],.h (aa+7) [],.h (aa+8) []]] [.rt aa .ro (tr a.aP),.rt (aa+1) .ro (tr a.ag),.rt (aa+2) .ro (tr a.fx),.rt (aa+3) .ro (tr a.Heap.aZ),.rt (aa+4) .ro (tr a.ao),.rt (aa+5) .ro (tr a.ak),.rt (aa+6) .ro (tr a.ay),.rt (aa+7) .ro (tr a.aN),.rt (aa+8) .ro (tr a.Out)] (λy _=>y= .v (.bool true)):=by
 refine ob func5 ntmps5 ?_;refine go [.R,.B,.N,.a,.Z,.R,.a,.Z,.R,.G,.N,.m] ?_;refine cv call6 rfl rfl (tI _ _ (by first|omega|(repeat (first|omega|apply dC))) (by first|omega|(repeat (first|omega|apply dE)))) ?_;refine go [.N,.a,.Z,.R2,.m,.b,.Z] ?_;refine cd (λc1=>?_) λc1=>?_
 ·try simp only[ah]at c1
  refine go [.R,.a,.Z] ?_;refine aQ 2 ?_
  first|rfl|(exfalso;simp_all;done)
 try simp only[ah]at c1
 have hw:Mk.wt a≤1048576:=by simp only[g_]at c1;omega
 refine go [.J,.R,.G,.N] ?_;refine sp (aE.bP rfl (by decide) call8 rfl rfl (kv _ (by first|omega|(simp only[Int.toNat_natCast];omega)|(simp only[Mk.wt]at *; omega))) (aj rfl) rfl rfl) ?_;refine go [.N] ?_;refine cv call17 rfl rfl (tQ _ hw) ?_;refine go [.N,.a,.Z,.R,.G] ?_;refine sp (aE.bP rfl (by decide) call8 rfl rfl (kv _ (by first|omega|(simp only[Int.toNat_natCast];omega)|(simp only[Mk.wt]at *; omega))) (aj rfl) rfl rfl) ?_;refine go [.N,.A,.N,.s,.Z,.R,.G,.N] ?_;refine cv call18 rfl rfl (uO _ hw) ?_;refine go [.N,.a,.Z,.R2,.m,.m,.N,.b,.Z] ?_;refine AW.cond rfl (λc2=>(by exfalso;first|(simp at c2;done)|(simp only[decide_eq_true_eq]at c2;omega))) (λc2=>?_);refine jd (AW.seq (AW.seq ?_));refine go [.D [0,1,4],.t 0,.G,.t 1,.G,.N] ?_;refine a1 2 [0] [1] rfl rfl (aE.bP rfl (by decide) call8 rfl rfl (kv _ (by first|omega|(simp only[Int.toNat_natCast];omega)|(simp only[Mk.wt]at *; omega))) (aj rfl) rfl rfl) ?_;refine go [.N,.g,.G,.N] ?_;refine a1 3 [] [2,0,1] rfl rfl (aE.aC rfl (by decide) call11 rfl rfl (sQ _ _)) ?_;refine go [.N,.t 4,.n,.Z] ?_;refine AW.cond rfl (λc3=>(by exfalso;first|(simp at c3;done)|(simp only[decide_eq_true_eq]at c3;omega))) (λc3=>?_);refine go [.J,.R,.a,.Z] ?_;refine aQ 2 ?_
 first|rfl|(exfalso;simp_all;done)
end Go.Proofs.YtekcnnngjoonbaaGreat.VM

