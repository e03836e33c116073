/- Contracts. No conditions. -/
import Derived.Test.YtekcnnngjoonbaaGreatWx
set_option linter.all false
set_option maxHeartbeats 8000000
set_option maxRecDepth 10000
namespace Go.Proofs.YtekcnnngjoonbaaGreat.VM
open List Nat
open Go Go.RowKit Go.Proofs Go.Proofs.Tryz
theorem mB(a:gC):a_ prog 78 [.g [.h aa []]] [.rt aa .ro (tr a.aZ)] (λy _=>y= .v (.bool (sD a.aZ))):=by
 refine ob func78 ntmps78 ?_;refine go [.R,.B,.N,.a,.Z,.R2,.f,.l,.N,.h,.b,.Z] ?_;refine cd (λc1=>?_) λc1=>?_
 ·try simp only[ah]at c1
  refine go [.R,.a,.Z] ?_;refine aQ 2 ?_;rw[show sD a.aZ=false by unfold sD;exact if_neg (by omega)];rfl
 try simp only[ah]at c1
 have hlen:a.aZ.length=5:=by omega
 refine go [.J,.R] ?_;refine sp (aE.makeSlice rfl (by decide) (by decide) rfl rfl (by omega) (by omega) (by omega)) ?_;refine go [.N,.a,.Z,.R2,.a,.Z] ?_;refine AW.block ?_;refine AW.aL (λo:Da (AP a.aZ) (sD a.aZ)=>[.sl 4 (.v (iv o.k)),.sl 3 (.h 13 []),.rt 1 .box (T.s 1 1 λk c=>([(T.j,none)].getD (k*1+c) (T.j,none)).fst),.al 1 0 (.h aa []),.rt aa .ro (tr a.aZ),.sl 1 (.p 1 [] 1 0 0),.rt 13 .row (tr o.u)]) (λo=>5-o.k) ⟨0,by omega,replicate 16 false,by simp,by unfold sD;rw[if_pos hlen]⟩ (ar.bb ⟨rfl,rfl,Rf rfl,⟨rfl,rfl⟩,Rf rfl,rfl,⟨_,rfl,nP 16⟩,trivial⟩ rfl rfl) ?_;intro o;have hleo:=o.le;refine go [.R2,.m,.N,.b,.Z] ?_;refine cd (λc2=>?_) λc2=>?_
 ·try simp only[ah]at c2
  refine jd (AW.seq (AW.block (sr ?_)));refine go [.m] ?_;refine cv call142 rfl rfl (oQ o.k (by omega)) ?_;refine go [.N,.a,.Z,.R,.a,.Z] ?_;refine AW.block ?_;refine AW.aL (λm:C0 (a.aZ.getD o.k En.ab) (lj o.k (a.aZ.getD o.k En.ab)) o.k (AP a.aZ o.k o.u)=>[.sl 6 (.v (iv m.k)),.sl 4 (.v (iv o.k)),.sl 5 (.v (iv ((2 ^ o.k:Nat):Int))),.sl 3 (.h 13 []),.rt 1 .box (T.s 1 1 λk c=>([(T.j,none)].getD (k*1+c) (T.j,none)).fst),.al 1 0 (.h aa []),.rt aa .ro (tr a.aZ),.sl 1 (.p 1 [] 1 0 0),.rt 13 .row (tr m.u)]) (λm=>(a.aZ.getD o.k En.ab).length-m.k) ⟨0,zero_le _,o.u,o.ul,rfl⟩ (ws) ?_;intro m;have hlem:=m.le;have hpw:=CE (k:=o.k) (by omega);refine AW.len aa [(1,o.k,0)] rfl (by refine⟨rfl,?_,lt_succ_self 0,trivial⟩;show o.k<a.aZ.length;omega) rfl (λhl=>?_);refine go [.R2,.m,.N,.f,.l,.m,.N,.i,.l,.h,.N,.b,.Z] ?_;refine cd (λc3=>?_) λc3=>?_
  ·try simp only[ah]at c3
   refine jd (AW.seq (AW.block (sr ?_)));refine go [.f,.l,.N,.m,.i,.l,.N,.m,.i,.l,.N,.a,.Z,.R2,.m,.b,.N,.m] ?_;apply aB.cut 2
   ·intro Kg4;refine aB.bq 40 rfl (λg4=>?_) (λg4=>?_)
    ·have eg4:=g4
     try simp only[ah]at eg4
     refine go [.m,.b,.N] ?_;exact bV 42 [41,42] (bU g4 _ undef) Kg4
    ·refine go [.x,.x] ?_;exact bX 42 [41,42] (bY g4 undef _) Kg4
   refine qq (Qt.br rfl rfl rfl) ?_;refine go [.m] ?_;apply aB.cut 4
   ·intro Kg5;refine aB.bq 44 rfl (λg5=>?_) (λg5=>?_)
    ·have eg5:=g5
     try simp only[ah]at eg5
     refine go [.m,.N,.m] ?_;refine qg (nF g5) (Qt.binOp rfl rfl (by first|exact lC _|rfl|exact lf (by omega))) ?_;refine go [.b,.N] ?_;exact bV 48 [45,46,47,48] (bU g5 _ undef) Kg5
    ·refine go [.x,.x,.x,.x] ?_;exact bX 48 [45,46,47,48] (bY g5 undef _) Kg5
   refine qq (Qt.br rfl rfl rfl) ?_;refine go [.m] ?_;apply aB.cut 15
   ·intro Kg6;refine aB.bq 50 rfl (λg6=>?_) (λg6=>?_)
    ·have eg6:=g6
     try simp only[ah]at eg6
     refine go [.m,.N,.b,.m] ?_;apply aB.cut 11
     ·intro Kg7;refine aB.split 53 rfl (λg7=>?_) (λg7=>?_)
      ·have eg7:=g7
       try simp only[ah]at eg7
       refine go [.f,.N,.l,.m,.i,.N,.l,.m,.b,.N,.i,.l,.m,.N,.b] ?_;exact bV 64 [54,55,56,57,58,59,60,61,62,63,64] (bY g7 _ undef) Kg7
      ·refine go [.x,.x,.x,.x,.N,.x,.x,.x,.x,.N,.x,.x,.x] ?_;exact bX 64 [54,55,56,57,58,59,60,61,62,63,64] (bU g7 undef _) Kg7
     refine qg (nF g6) (Qt.aG rfl rfl rfl) ?_;exact bV 65 [51,52,53,54,55,56,57,58,59,60,61,62,63,64,65] (bU g6 _ undef) Kg6
    ·refine go [.x,.x,.x,.x,.N,.x,.x,.x,.x,.N,.x,.x,.x,.x,.N,.x,.x,.x] ?_;exact bX 65 [51,52,53,54,55,56,57,58,59,60,61,62,63,64,65] (bY g6 undef _) Kg6
   refine qq (Qt.br rfl rfl rfl) ?_;refine go [.Z] ?_;refine cd (λc8=>?_) λc8=>?_
   ·have k8:=c8
    try simp only[ah]at c8
    refine go [.R,.a,.Z] ?_;refine aQ 2 ?_;have hz:sD a.aZ=false:=o.eq.trans (ic (m.eq.trans (wF ((Bx (k:=o.k) (l:=(a.aZ.getD o.k En.ab)) (j:=m.k)).symm.trans k8) (by omega))) (by omega));exact(congrArg (λz=>X.v (Value.bool z)) hz).symm
   have k8:=c8
   try simp only[ah]at c8
   have hbad:bad o.k (a.aZ.getD o.k En.ab) m.k=false:=(Bx (k:=o.k) (l:=(a.aZ.getD o.k En.ab)) (j:=m.k)).symm.trans k8;have hnb:0≤(a.aZ.getD o.k En.ab).getD m.k En.ab∧(a.aZ.getD o.k En.ab).getD m.k En.ab<16∧(a.aZ.getD o.k En.ab).getD m.k En.ab%(2 ^ o.k:Nat)=0:=yI hbad;have hf:(a.aZ.getD o.k En.ab).getD m.k En.ab=((gg (a.aZ.getD o.k En.ab) m.k:Nat):Int):=(Int.toNat_of_nonneg hnb.1).symm;have hnm:gg (a.aZ.getD o.k En.ab) m.k%2 ^ o.k=0:=by have h3:=hnb.2.2;rw[hf]at h3;exact_mod_cast h3
   have hbi:=tR (n:=gg (a.aZ.getD o.k En.ab) m.k) (k:=o.k) (by omega) (by omega) hnm;refine jd (dq ?_);refine go [.m,.N,.a,.Z] ?_;refine AW.block ?_;refine AW.aL (λx:Eo (gu m.u (gg (a.aZ.getD o.k En.ab) m.k) (2 ^ o.k)) (gg (a.aZ.getD o.k En.ab) m.k) (gg (a.aZ.getD o.k En.ab) m.k+2 ^ o.k)=>[.sl 8 (.v (iv x.k)),.sl 6 (.v (iv m.k)),.sl 4 (.v (iv o.k)),.sl 7 (.v (iv ((a.aZ.getD o.k En.ab).getD m.k En.ab))),.sl 5 (.v (iv ((2 ^ o.k:Nat):Int))),.sl 3 (.h 13 []),.rt 1 .box (T.s 1 1 λk c=>([(T.j,none)].getD (k*1+c) (T.j,none)).fst),.al 1 0 (.h aa []),.rt aa .ro (tr a.aZ),.sl 1 (.p 1 [] 1 0 0),.rt 13 .row (tr x.u)]) (λx=>gg (a.aZ.getD o.k En.ab) m.k+2 ^ o.k-x.k) ⟨gg (a.aZ.getD o.k En.ab) m.k,by omega,Nat.le_refl _,m.u,m.ul,by rw[Nat.add_sub_cancel_left]⟩ (ar.bb ⟨(congrArg (λz=>X.v (iv z)) hf),rfl,rfl,rfl,rfl,rfl,Rf rfl,⟨rfl,rfl⟩,Rf rfl,rfl,Rf rfl,trivial⟩ rfl rfl) ?_;intro x;have hlex:=x.le;have hxl:=x.ul;have hxg:=x.ge;refine go [.R2,.m,.m,.N,.m,.b,.b,.Z] ?_;refine cd (λc9=>?_) λc9=>?_
   ·try simp only[ah]at c9
    refine jd (AW.seq (AW.block (dq ?_)));refine go [.m,.N,.m,.i,.l,.Z] ?_;refine cd (λc10=>?_) λc10=>?_
    ·have k10:=c10
     try simp only[ah]at c10
     refine go [.R,.a,.Z] ?_;refine aQ 2 ?_;have hz:sD a.aZ=false:=o.eq.trans (ic (m.eq.trans (p8 (x.eq.trans (by rw[qw k10 (by omega)])) (by omega))) (by omega));exact(congrArg (λz=>X.v (Value.bool z)) hz).symm
    have k10:=c10
    try simp only[ah]at c10
    refine go [.J,.R1,.m,.N,.m,.i,.s,.Z,.R1,.m,.N,.b,.a,.Z] ?_;refine⟨⟨x.k+1,by omega,by omega,x.u.set x.k true,by simp[x.ul],x.eq.trans (by rw[o8 k10 (by omega),Nat.sub_sub])⟩,ar.bb ⟨ew,rfl,rfl,rfl,rfl,rfl,Rf rfl,⟨rfl,rfl⟩,Rf rfl,rfl,⟨_,rfl,(bG (λk c hk=>by simp only[ai,hk,false_and,if_false];try rfl) (λc hc=>match c,hc with|0,_=>(by simp only[ai,eq_self,and_self,if_true];exact aw)|c+1,hc=>absurd hc (by simp only[En.n];omega)))⟩,trivial⟩ rfl rfl,?_⟩;dsimp only;omega
   try simp only[ah]at c9
   have hpaint:gu m.u (gg (a.aZ.getD o.k En.ab) m.k) (2 ^ o.k)=some x.u:=x.eq.trans (by rw[show gg (a.aZ.getD o.k En.ab) m.k+2 ^ o.k-x.k=0 by omega];rfl);refine AW.exit ?_;dsimp only[aD,au,reduceIte];refine go [.R,.m,.N,.b,.m] ?_;apply aB.cut 5
   ·intro Kg11;refine aB.split 84 rfl (λg11=>?_) (λg11=>?_)
    ·have eg11:=g11
     try simp only[ah]at eg11
     refine go [.m,.N,.m] ?_;refine qg g11 (Qt.binOp rfl rfl (by first|exact dM (by omega)|rfl)) ?_;refine qg g11 (Qt.binOp rfl rfl (by first|exact lC _|rfl|exact lf (by omega))) ?_;refine go [.N,.b] ?_;exact bV 89 [85,86,87,88,89] (bY g11 _ undef) Kg11
    ·refine go [.x,.x,.x,.x,.N,.x] ?_;exact bX 89 [85,86,87,88,89] (bU g11 undef _) Kg11
   refine qq (Qt.aG rfl rfl rfl) ?_;refine go [.m,.N] ?_;apply aB.cut 9
   ·intro Kg12;refine aB.split 91 rfl (λg12=>?_) (λg12=>?_)
    ·have eg12:=g12
     try simp only[ah]at eg12
     refine go [.f,.l,.m,.N,.i,.l,.m,.N,.m,.b] ?_;refine aB.step rfl g12 (aE.aC rfl (by decide) call143 rfl rfl (o9 _ _)) ?_;refine go [.N] ?_;exact bV 100 [92,93,94,95,96,97,98,99,100] (bY g12 _ undef) Kg12
    ·refine go [.x,.x,.x,.x,.N,.x,.x,.x,.x,.N,.x] ?_;exact bX 100 [92,93,94,95,96,97,98,99,100] (bU g12 undef _) Kg12
   refine qq (Qt.aG rfl rfl rfl) ?_;refine go [.Z] ?_;refine cd (λc13=>?_) λc13=>?_
   ·have k13:=c13
    try simp only[ah]at c13
    refine go [.R,.a,.Z] ?_;refine aQ 2 ?_;have hz:sD a.aZ=false:=o.eq.trans (ic (m.eq.trans (wN hpaint ((BA (k:=o.k) (l:=(a.aZ.getD o.k En.ab)) (j:=m.k) hnb.1).symm.trans k13) (by omega))) (by omega));exact(congrArg (λz=>X.v (Value.bool z)) hz).symm
   have k13:=c13
   try simp only[ah]at c13
   have hbud:=(BA (k:=o.k) (l:=(a.aZ.getD o.k En.ab)) (j:=m.k) hnb.1).symm.trans k13;refine go [.J,.R1,.m,.N,.b,.a,.Z] ?_;refine⟨⟨m.k+1,by omega,x.u,x.ul,m.eq.trans (by rw[uJ hbad hpaint hbud (by omega),Nat.sub_sub])⟩,ws,?_⟩;dsimp only;omega
  try simp only[ah]at c3
  refine AW.exit ?_;dsimp only[aD,au,reduceIte];refine go [.R1,.m,.N,.b,.a,.Z] ?_;refine⟨⟨o.k+1,by omega,m.u,m.ul,o.eq.trans (by rw[qI (u':=m.u) (m.eq.trans (by rw[show(a.aZ.getD o.k En.ab).length-m.k=0 by omega];rfl)) (by omega),Nat.sub_sub])⟩,ws,?_⟩;dsimp only;omega
 try simp only[ah]at c2
 refine AW.exit ?_;dsimp only[aD,au,reduceIte];refine go [.R,.a,.Z] ?_;refine aQ 2 ?_;have hz:sD a.aZ=true:=o.eq.trans (by rw[show 5-o.k=0 by omega];rfl);exact(congrArg (λz=>X.v (Value.bool z)) hz).symm
open Go Go.RowKit Go.Proofs Go.Proofs.Tryz
theorem lT(a:gC):a_ prog 82 [.g [.h aa []]] [.rt aa .ro (tr a.aZ)] (λy _=>y= .v (.bool (Ap a.aZ))):=by
 refine ob func82 ntmps82 ?_;refine go [.R,.B,.N,.a,.Z,.R2,.f,.l,.N,.h,.b,.Z] ?_;refine cd (λc1=>?_) λc1=>?_
 ·try simp only[ah]at c1
  refine go [.R,.a,.Z] ?_;refine aQ 2 ?_;rw[show Ap a.aZ=false by unfold Ap;exact if_neg (by omega)];rfl
 try simp only[ah]at c1
 have hlen:a.aZ.length=5:=by omega
 refine go [.J,.R] ?_;refine sp (aE.makeSlice rfl (by decide) (by decide) rfl rfl (by omega) (by omega) (by omega)) ?_;refine go [.N,.a,.Z,.R2,.f,.l,.N,.h,.m,.Z] ?_;refine AW.block ?_;refine AW.aL (λo:Da (Bq a.aZ) (Ap a.aZ)=>[.sl 18 (.v (iv o.k)),.sl 17 (.v (iv a.aZ.length)),.sl 16 (.h aa []),.sl 3 (.h 14 []),.rt 1 .box (T.s 1 1 λk c=>([(T.j,none)].getD (k*1+c) (T.j,none)).fst),.al 1 0 (.h aa []),.rt aa .ro (tr a.aZ),.sl 1 (.p 1 [] 1 0 0),.rt 14 .row (tr o.u)]) (λo=>5-o.k) ⟨0,by omega,replicate 16 false,by simp,by unfold Ap;rw[if_pos hlen]⟩ (ar.bb ⟨rfl,rfl,rfl,rfl,Rf rfl,⟨rfl,rfl⟩,Rf rfl,rfl,⟨_,rfl,nP 16⟩,trivial⟩ rfl rfl) ?_;intro o;have hleo:=o.le;refine go [.R,.b,.Z] ?_;refine AW.seq ?_;refine cd (λc2=>?_) λc2=>?_
 ·try simp only[ah]at c2
  refine jd (AW.seq (AW.block (sr ?_)));refine go [.m,.N,.i,.l,.a,.N,.a,.Z,.R,.a,.Z,.R,.m,.N,.h,.m,.Z] ?_;refine AW.block ?_;refine AW.aL (λm:C0 (a.aZ.getD o.k En.ab) (oC o.k (a.aZ.getD o.k En.ab)) o.k (Bq a.aZ o.k o.u)=>[.sl 25 (.v (iv m.k)),.sl 18 (.v (iv o.k)),.sl 24 (.v (iv (a.aZ.getD o.k En.ab).length)),.sl 23 (.h aa [(1,o.k,0)]),.sl 4 (.v (iv o.k)),.sl 5 (.h aa [(1,o.k,0)]),.sl 6 (.v (iv (qJ (a.aZ.getD o.k En.ab) m.k))),.sl 17 (.v (iv a.aZ.length)),.sl 16 (.h aa []),.sl 3 (.h 14 []),.rt 1 .box (T.s 1 1 λk c=>([(T.j,none)].getD (k*1+c) (T.j,none)).fst),.al 1 0 (.h aa []),.rt aa .ro (tr a.aZ),.sl 1 (.p 1 [] 1 0 0),.rt 14 .row (tr m.u)]) (λm=>(a.aZ.getD o.k En.ab).length-m.k) ⟨0,zero_le _,o.u,o.ul,rfl⟩ (ws) ?_;intro m;have hlem:=m.le;have hpw:=CE (k:=o.k) (by omega);refine AW.len aa [(1,o.k,0)] rfl (by refine⟨rfl,?_,lt_succ_self 0,trivial⟩;show o.k<a.aZ.length;omega) rfl (λhl=>?_);refine go [.R,.b,.Z] ?_;refine AW.seq ?_;refine cd (λc3=>?_) λc3=>?_
  ·try simp only[ah]at c3
   refine jd (AW.seq (AW.block (sr ?_)));refine go [.i,.N,.l,.a,.Z,.R2,.m,.N] ?_;refine cv call112 rfl rfl (ng _) ?_;refine go [.N,.n,.m] ?_;apply aB.cut 3
   ·intro Kg4;refine aB.bq 32 rfl (λg4=>?_) (λg4=>?_)
    ·have eg4:=g4
     try simp only[ah]at eg4
     refine go [.m,.N,.m,.b] ?_;exact bV 35 [33,34,35] (bU g4 _ undef) Kg4
    ·refine go [.x,.x,.x] ?_;exact bX 35 [33,34,35] (bY g4 undef _) Kg4
   refine qq (Qt.br rfl rfl rfl) ?_;refine go [.N,.m] ?_;apply aB.cut 5
   ·intro Kg5;refine aB.bq 37 rfl (λg5=>?_) (λg5=>?_)
    ·have eg5:=g5
     try simp only[ah]at eg5
     refine go [.m,.m,.N] ?_;refine qg (nF g5) (Qt.binOp rfl rfl (by first|exact nW (by omega)|rfl)) ?_;refine qg (nF g5) (Qt.binOp rfl rfl (by first|exact lC _|rfl|exact lf (by omega))) ?_;refine go [.b,.N] ?_;exact bV 42 [38,39,40,41,42] (bU g5 _ undef) Kg5
    ·refine go [.x,.x,.x,.x,.N,.x] ?_;exact bX 42 [38,39,40,41,42] (bY g5 undef _) Kg5
   refine qq (Qt.br rfl rfl rfl) ?_;refine go [.Z] ?_;refine cd (λc6=>?_) λc6=>?_
   ·have k6:=c6
    try simp only[ah]at c6
    refine go [.R,.a,.Z] ?_;refine aQ 2 ?_;have hz:Ap a.aZ=false:=o.eq.trans (ic (m.eq.trans (wF ((Bt (k:=o.k) (l:=(a.aZ.getD o.k En.ab)) (j:=m.k)).symm.trans k6) (by omega))) (by omega));exact(congrArg (λz=>X.v (Value.bool z)) hz).symm
   have k6:=c6
   try simp only[ah]at c6
   have hbad:bad o.k (a.aZ.getD o.k En.ab) m.k=false:=(Bt (k:=o.k) (l:=(a.aZ.getD o.k En.ab)) (j:=m.k)).symm.trans k6;have hnb:0≤(a.aZ.getD o.k En.ab).getD m.k En.ab∧(a.aZ.getD o.k En.ab).getD m.k En.ab<16∧(a.aZ.getD o.k En.ab).getD m.k En.ab%(2 ^ o.k:Nat)=0:=yI hbad;have hf:(a.aZ.getD o.k En.ab).getD m.k En.ab=((gg (a.aZ.getD o.k En.ab) m.k:Nat):Int):=(Int.toNat_of_nonneg hnb.1).symm;have hnm:gg (a.aZ.getD o.k En.ab) m.k%2 ^ o.k=0:=by have h3:=hnb.2.2;rw[hf]at h3;exact_mod_cast h3
   have hbi:=tR (n:=gg (a.aZ.getD o.k En.ab) m.k) (k:=o.k) (by omega) (by omega) hnm;refine go [.J,.R,.m,.N,.a,.Z,.R2,.m,.a,.Z] ?_;refine AW.block ?_;refine AW.aL (λx:Eo (gu m.u (gg (a.aZ.getD o.k En.ab) m.k) (2 ^ o.k)) (gg (a.aZ.getD o.k En.ab) m.k) (gg (a.aZ.getD o.k En.ab) m.k+2 ^ o.k)=>[.sl 9 (.v (iv x.k)),.sl 25 (.v (iv m.k)),.sl 18 (.v (iv o.k)),.sl 8 (.v (iv (gg (a.aZ.getD o.k En.ab) m.k:Nat))),.sl 24 (.v (iv (a.aZ.getD o.k En.ab).length)),.sl 23 (.h aa [(1,o.k,0)]),.sl 4 (.v (iv o.k)),.sl 5 (.h aa [(1,o.k,0)]),.sl 6 (.v (iv ((a.aZ.getD o.k En.ab).getD m.k En.ab))),.sl 17 (.v (iv a.aZ.length)),.sl 16 (.h aa []),.sl 3 (.h 14 []),.rt 1 .box (T.s 1 1 λk c=>([(T.j,none)].getD (k*1+c) (T.j,none)).fst),.al 1 0 (.h aa []),.rt aa .ro (tr a.aZ),.sl 1 (.p 1 [] 1 0 0),.rt 14 .row (tr x.u)]) (λx=>gg (a.aZ.getD o.k En.ab) m.k+2 ^ o.k-x.k) ⟨gg (a.aZ.getD o.k En.ab) m.k,by omega,Nat.le_refl _,m.u,m.ul,by rw[Nat.add_sub_cancel_left]⟩ (ar.bb ⟨(congrArg (λz=>X.v (iv z)) hf),rfl,rfl,(congrArg (λz=>X.v (iv z)) hf),rfl,rfl,rfl,rfl,rfl,rfl,rfl,rfl,Rf rfl,⟨rfl,rfl⟩,Rf rfl,rfl,Rf rfl,trivial⟩ rfl rfl) ?_;intro x;have hlex:=x.le;have hxl:=x.ul;have hxg:=x.ge;refine go [.R2,.m,.N,.m,.m] ?_;refine qq (Qt.binOp rfl rfl (by first|exact nW (by omega)|rfl)) ?_;refine go [.N,.b,.b,.Z] ?_;refine cd (λc7=>?_) λc7=>?_
   ·try simp only[ah]at c7
    refine jd (AW.seq (AW.block (dq ?_)));refine go [.m,.N,.m,.i,.l,.Z] ?_;refine cd (λc8=>?_) λc8=>?_
    ·have k8:=c8
     try simp only[ah]at c8
     refine go [.R,.a,.Z] ?_;refine aQ 2 ?_;have hz:Ap a.aZ=false:=o.eq.trans (ic (m.eq.trans (p8 (x.eq.trans (by rw[qw k8 (by omega)])) (by omega))) (by omega));exact(congrArg (λz=>X.v (Value.bool z)) hz).symm
    have k8:=c8
    try simp only[ah]at c8
    refine go [.J,.R1,.m,.N,.m,.i,.s,.Z,.R1,.m,.N,.b,.a,.Z] ?_;refine⟨⟨x.k+1,by omega,by omega,x.u.set x.k true,by simp[x.ul],x.eq.trans (by rw[o8 k8 (by omega),Nat.sub_sub])⟩,ar.bb ⟨ew,rfl,rfl,rfl,rfl,rfl,rfl,rfl,rfl,rfl,rfl,rfl,Rf rfl,⟨rfl,rfl⟩,Rf rfl,rfl,⟨_,rfl,(bG (λk c hk=>by simp only[ai,hk,false_and,if_false];try rfl) (λc hc=>match c,hc with|0,_=>(by simp only[ai,eq_self,and_self,if_true];exact aw)|c+1,hc=>absurd hc (by simp only[En.n];omega)))⟩,trivial⟩ rfl rfl,?_⟩;dsimp only;omega
   try simp only[ah]at c7
   have hpaint:gu m.u (gg (a.aZ.getD o.k En.ab) m.k) (2 ^ o.k)=some x.u:=x.eq.trans (by rw[show gg (a.aZ.getD o.k En.ab) m.k+2 ^ o.k-x.k=0 by omega];rfl);refine AW.exit ?_;dsimp only[aD,au,reduceIte];refine go [.R,.m,.N,.b,.m] ?_;apply aB.cut 5
   ·intro Kg9;refine aB.split 63 rfl (λg9=>?_) (λg9=>?_)
    ·have eg9:=g9
     try simp only[ah]at eg9
     refine go [.m,.N,.m,.m] ?_;refine aB.step rfl g9 (aE.aC rfl (by decide) call156 rfl rfl (va (gg (a.aZ.getD o.k En.ab) m.k) o.k (by omega) (by omega))) ?_;refine go [.N] ?_;refine aB.step rfl g9 (aE.aC rfl (by decide) call155 rfl rfl (kY _ _)) ?_;refine go [.N] ?_;exact bV 68 [64,65,66,67,68] (bY g9 _ undef) Kg9
    ·refine go [.x,.x,.x,.x,.N,.x] ?_;exact bX 68 [64,65,66,67,68] (bU g9 undef _) Kg9
   refine qq (Qt.aG rfl rfl rfl) ?_;refine go [.Z] ?_;refine cd (λc10=>?_) λc10=>?_
   ·have k10:=c10
    try simp only[ah]at c10
    refine go [.R,.a,.Z] ?_;refine aQ 2 ?_;have hz:Ap a.aZ=false:=o.eq.trans (ic (m.eq.trans (wN hpaint ((Bz (k:=o.k) (l:=(a.aZ.getD o.k En.ab)) (j:=m.k)).symm.trans k10) (by omega))) (by omega));exact(congrArg (λz=>X.v (Value.bool z)) hz).symm
   have k10:=c10
   try simp only[ah]at c10
   have hbud:=(Bz (k:=o.k) (l:=(a.aZ.getD o.k En.ab)) (j:=m.k)).symm.trans k10;refine go [.J,.R1,.b,.N,.m,.Z] ?_;refine⟨⟨m.k+1,by omega,x.u,x.ul,m.eq.trans (by rw[uJ hbad hpaint hbud (by omega),Nat.sub_sub])⟩,ws,?_⟩;dsimp only;omega
  try simp only[ah]at c3
  refine AW.exit ?_;dsimp only[aD,au,reduceIte];refine go [.R1,.b,.m,.Z] ?_;refine⟨⟨o.k+1,by omega,m.u,m.ul,o.eq.trans (by rw[qI (u':=m.u) (m.eq.trans (by rw[show(a.aZ.getD o.k En.ab).length-m.k=0 by omega];rfl)) (by omega),Nat.sub_sub])⟩,ws,?_⟩;dsimp only;omega
 try simp only[ah]at c2
 refine AW.exit ?_;dsimp only[aD,au,reduceIte];refine go [.R,.a,.Z] ?_;refine aQ 2 ?_;have hz:Ap a.aZ=true:=o.eq.trans (by rw[show 5-o.k=0 by omega];rfl);exact(congrArg (λz=>X.v (Value.bool z)) hz).symm
open Go Go.RowKit Go.Proofs Go.Proofs.Tryz
theorem xM(a:gC)(f:Int)(h5:a.aZ.length=5)(hf:frame f=true):a_ prog 79 [.g [.h aa []],.v (iv f)] [.rt aa .ro (tr a.aZ)] (λy _=>y= .v (.bool (sY a.aZ f))):=by
 refine ob func79 ntmps79 ?_;have hf2:=jw.1 hf;refine AW.len (aa) [] rfl (by simp[bT]) rfl (λhl=>?_);refine go [.R,.B,.N,.a,.Z,.R2,.a,.Z] ?_;refine AW.block ?_;refine AW.aL (λi:m8 a.aZ f=>[.sl 5 (.v (iv i.k)),.sl 1 (.v (iv f)),.sl 2 (.p 2 [] 1 0 0),.rt 2 .box (T.s 1 1 λk c=>([(T.j,none)].getD (k*1+c) (T.j,none)).fst),.al 2 0 (.h aa []),.rt aa .ro (tr a.aZ)]) (λi=>a.aZ.length-i.k) ⟨0,zero_le _,λ_ h=>absurd h (not_lt_zero _)⟩ (ws) ?_;intro i;have hle:=i.le;refine go [.R2,.m,.N,.f,.l,.h,.N,.b,.Z] ?_;refine cd (λc1=>?_) λc1=>?_
 ·try simp only[ah]at c1
  have hpw:=CE (k:=i.k) (by omega);have htm:=yN (f:=f) (k:=i.k) hf2.1;have hpz:((2 ^ i.k:Nat):Int)≠0:=by omega
  refine jd (AW.seq (AW.block (AW.seq ?_)));refine go [.D [0,1,2,3,4,5,6,7,9,10],.t 0,.f,.t 1,.l,.N,.t 2,.m,.t 3,.i,.t 4,.l,.N,.t 5,.m,.t 6,.m,.t 7,.m,.N] ?_;refine a1 8 [0,1,2,3,4,5,6] [7] rfl rfl (aE.aC rfl (by decide) call142 rfl rfl (oQ i.k (by omega))) ?_;refine go [.N,.g,.f,.N,.g,.l,.N,.g,.m,.N,.g,.i,.N,.g,.l,.N,.g,.m,.N,.g,.m,.N] ?_;refine tk 9 rfl (Qt.binOp rfl rfl (by first|exact lC _|rfl|exact lf (by omega))) ?_;refine go [.t 10,.b] ?_;refine a1 11 [] [10,8,4,9,5,7,3,6,2,1,0] rfl rfl (aE.aC rfl (by decide) call143 rfl rfl (o9 _ _)) ?_;refine go [.N,.Z] ?_;refine cd (λc2=>?_) λc2=>?_
  ·try simp only[ah]at c2
   refine go [.R,.a,.Z] ?_;refine aQ 4 ?_;rw[i.yes (by omega) (by rw[ua,←htm.1];exact c2)];rfl
  try simp only[ah]at c2
  refine go [.J,.R1,.m,.b,.N,.a,.Z] ?_;refine⟨⟨i.k+1,by omega,i.next (by rw[ua,←htm.1];exact c2)⟩,ws,?_⟩;show a.aZ.length-(i.k+1)<a.aZ.length-i.k;omega
 try simp only[ah]at c1
 refine AW.exit ?_;dsimp only[aD,au,reduceIte];refine go [.R,.a,.Z] ?_;refine aQ 4 ?_;rw[i.not (by omega)];rfl
open Go Go.RowKit Go.Proofs Go.Proofs.Tryz
theorem yd:∀n:Nat,n<16→∀k:Nat,k<5→(n:Int).fdiv (2 ^ (min (k:Int).toNat 64))=((n / 2 ^ k:Nat):Int):=by decide +kernel
theorem Cr{n k:Nat}(hn:n<16)(hk:k<5):bR .shr (iv (n:Int)) (iv (k:Int))=some (iv ((n / 2 ^ k:Nat):Int)):=by
 show(if(k:Int)<0 then none else some (Value.int .i64 ((n:Int).fdiv (2 ^ (min (k:Int).toNat 64)))))=_;rw[if_neg (by omega),yd n hn k hk]
theorem xS:∀n:Nat,n<16→∀k:Nat,k<5→IntKind.i64.wrap (((n / 2 ^ k:Nat):Int)*2 ^ (min (k:Int).toNat 64))=(n:Int)-(n:Int)%((2 ^ k:Nat):Int):=by decide +kernel
theorem BM{n k:Nat}(hn:n<16)(hk:k<5):bR .shl (iv ((n / 2 ^ k:Nat):Int)) (iv (k:Int))=some (iv ((n:Int)-(n:Int)%((2 ^ k:Nat):Int))):=by
 show(if(k:Int)<0 then none else some (Value.int .i64 (IntKind.i64.wrap (((n / 2 ^ k:Nat):Int)*2 ^ (min (k:Int).toNat 64)))))=_;rw[if_neg (by omega),xS n hn k hk]
theorem vY(a:gC)(f:Int)(h5:a.aZ.length=5)(hf:frame f=true):a_ prog 83 [.g [.h aa []],.v (iv f)] [.rt aa .ro (tr a.aZ)] (λy _=>y= .v (.bool (sY a.aZ f))):=by
 refine ob func83 ntmps83 ?_;obtain⟨n,rfl⟩:=Int.eq_ofNat_of_zero_le (jw.1 hf).1;have hn16:n<16:=by have:=(jw.1 hf).2;omega
 refine AW.len (aa) [] rfl (by simp[bT]) rfl (λhl=>?_);refine go [.R,.B,.N,.a,.Z,.R2,.f,.l,.N,.h,.m,.Z] ?_;refine AW.block ?_;refine AW.aL (λi:m8 a.aZ (n:Int)=>[.sl 10 (.v (iv i.k)),.sl 9 (.v (iv a.aZ.length)),.sl 8 (.h aa []),.sl 1 (.v (iv n)),.rt aa .ro (tr a.aZ)]) (λi=>a.aZ.length-i.k) ⟨0,zero_le _,λ_ h=>absurd h (not_lt_zero _)⟩ (ws) ?_;intro i;have hle:=i.le;refine go [.R,.b,.Z] ?_;refine AW.seq ?_;refine cd (λc1=>?_) λc1=>?_
 ·try simp only[ah]at c1
  refine jd (AW.seq (AW.block (sr ?_)));refine go [.m,.N,.i,.l,.a,.N,.a,.Z,.R,.m,.m,.N,.m] ?_;refine qq (Qt.binOp rfl rfl (Cr hn16 (by omega))) ?_;refine go [.m,.N] ?_;refine qq (Qt.binOp rfl rfl (BM hn16 (by omega))) ?_;refine cv call155 rfl rfl (kY _ _) ?_;refine go [.Z] ?_;refine cd (λc2=>?_) λc2=>?_
  ·try simp only[ah]at c2
   refine go [.R,.a,.Z] ?_;refine aQ 4 ?_;rw[i.yes (by omega) c2];rfl
  try simp only[ah]at c2
  refine go [.J,.R1,.b,.N,.m,.Z] ?_;refine⟨⟨i.k+1,by omega,i.next c2⟩,ws,?_⟩;show a.aZ.length-(i.k+1)<a.aZ.length-i.k;omega
 try simp only[ah]at c1
 refine AW.exit ?_;dsimp only[aD,au,reduceIte];refine go [.R,.a,.Z] ?_;refine aQ 4 ?_;rw[i.not (by omega)];rfl
end Go.Proofs.YtekcnnngjoonbaaGreat.VM

