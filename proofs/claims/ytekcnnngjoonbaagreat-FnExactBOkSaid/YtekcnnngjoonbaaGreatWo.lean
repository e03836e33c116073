/- Contracts. No conditions. -/
import Derived.Test.YtekcnnngjoonbaaGreatWn
set_option linter.all false
set_option maxHeartbeats 8000000
set_option maxRecDepth 10000
namespace Go.Proofs.YtekcnnngjoonbaaGreat.VM
open List Nat
open Go Go.RowKit Go.Proofs
set_option maxRecDepth 10000 in
theorem lL(a:gN):bf Tryz.prog 78 [.g [.h aa []]] [.rt aa .ro (tr a.aU)] (λy _=>y= .v (.bool (rI a.aU))):=by
 refine ob Tryz.func78 Tryz.ntmps78 ?_;refine go [.R,.B,.N,.a,.Z,.R2,.f,.l,.N,.h,.b,.Z] (k:=?_);refine cd (λc1=>?_) λc1=>?_
 ·try simp only[ai]at c1
  refine go [.R,.a,.Z] (k:=?_);refine aM 2 ?_;rw[show rI a.aU=false by unfold rI;exact if_neg (by omega)];rfl
 try simp only[ai]at c1
 have hlen:a.aU.length=5:=by omega
 refine go [.J,.R] (k:=?_);refine sp (aK.makeSlice rfl (by decide) (by decide) rfl rfl (by omega) (by omega) (by omega)) ?_;refine go [.N,.a,.Z,.R2,.a,.Z] (k:=?_);refine AW.block ?_;refine AW.bc (L':=[.sl 4 (.v (iv (0:Nat))), .sl 3 (.h 13 []), .rt 1 .box (T.s 1 1 λk c=>([(T.j,none)].getD (k*1+c) (T.j,none)).fst), .al 1 0 (.h aa []), .rt aa .ro (tr a.aU), .sl 1 (.p 1 [] 1 0 0), .rt 13 .row (tr (replicate 16 false))]) (ar.aZ ⟨rfl,rfl,Rf rfl,⟨rfl,rfl⟩,Rf rfl,rfl,⟨_,rfl,nE 16⟩,trivial⟩ rfl rfl) ?_;refine AW.loop (λo:Bb (yn a.aU) (rI a.aU)=>[.sl 4 (.v (iv o.k)), .sl 3 (.h 13 []), .rt 1 .box (T.s 1 1 λk c=>([(T.j,none)].getD (k*1+c) (T.j,none)).fst), .al 1 0 (.h aa []), .rt aa .ro (tr a.aU), .sl 1 (.p 1 [] 1 0 0), .rt 13 .row (tr o.u)]) (λo=>5-o.k) ⟨0,by omega,replicate 16 false,by simp,by unfold rI;rw[if_pos hlen]⟩ ?_;intro o;have hleo:=o.le;refine go [.R2,.m,.N,.b,.Z] (k:=?_);refine cd (λc2=>?_) λc2=>?_
 ·try simp only[ai]at c2
  refine jd (AW.seq (AW.block (sr ?_)));refine go [.m] (k:=?_);refine cv Tryz.call142 rfl rfl (oU o.k (by omega)) ?_;refine go [.N,.a,.Z,.R,.a,.Z] (k:=?_);refine AW.block ?_;refine AW.bc (L':=[.sl 6 (.v (iv (0:Nat))), .sl 4 (.v (iv o.k)), .sl 5 (.v (iv ((2 ^ o.k:Nat):Int))), .sl 3 (.h 13 []), .rt 1 .box (T.s 1 1 λk c=>([(T.j,none)].getD (k*1+c) (T.j,none)).fst), .al 1 0 (.h aa []), .rt aa .ro (tr a.aU), .sl 1 (.p 1 [] 1 0 0), .rt 13 .row (tr o.u)]) (ws) ?_;refine AW.loop (λm:Az (a.aU.getD o.k En.ab) (la o.k (a.aU.getD o.k En.ab)) o.k (yn a.aU o.k o.u)=>[.sl 6 (.v (iv m.k)), .sl 4 (.v (iv o.k)), .sl 5 (.v (iv ((2 ^ o.k:Nat):Int))), .sl 3 (.h 13 []), .rt 1 .box (T.s 1 1 λk c=>([(T.j,none)].getD (k*1+c) (T.j,none)).fst), .al 1 0 (.h aa []), .rt aa .ro (tr a.aU), .sl 1 (.p 1 [] 1 0 0), .rt 13 .row (tr m.u)]) (λm=>(a.aU.getD o.k En.ab).length-m.k) ⟨0,zero_le _,o.u,o.ul,rfl⟩ ?_;intro m;have hlem:=m.le;have hpw:=zQ (k:=o.k) (by omega);refine AW.len aa [(1,o.k,0)] rfl (by refine⟨rfl,?_,lt_succ_self 0,trivial⟩;show o.k<a.aU.length;omega) rfl (λhl=>?_);refine go [.R2,.m,.N,.f,.l,.m,.N,.i,.l,.h,.N,.b,.Z] (k:=?_);refine cd (λc3=>?_) λc3=>?_
  ·try simp only[ai]at c3
   refine jd (AW.seq (AW.block (sr ?_)));refine go [.f,.l,.N,.m,.i,.l,.N,.m,.i,.l,.N,.a,.Z,.R2,.m,.b,.N,.m] (k:=?_);apply az.cut 2
   ·intro Kg4;refine az.bA 40 rfl (λg4=>?_) (λg4=>?_)
    ·have eg4:=g4
     try simp only[ai]at eg4
     refine go [.m,.b,.N] (k:=?_);exact bZ 42 [41,42] (bY g4 _ undef) Kg4
    ·refine go [.x,.x] (k:=?_);exact bX 42 [41,42] (b6 g4 undef _) Kg4
   refine qq (Qt.bz rfl rfl rfl) ?_;refine go [.m] (k:=?_);apply az.cut 4
   ·intro Kg5;refine az.bA 44 rfl (λg5=>?_) (λg5=>?_)
    ·have eg5:=g5
     try simp only[ai]at eg5
     refine go [.m,.N,.m] (k:=?_);refine qg (nF g5) (Qt.binOp rfl rfl (by first|exact lb _|rfl|exact ls (by omega))) ?_;refine go [.b,.N] (k:=?_);exact bZ 48 [45,46,47,48] (bY g5 _ undef) Kg5
    ·refine go [.x,.x,.x,.x] (k:=?_);exact bX 48 [45,46,47,48] (b6 g5 undef _) Kg5
   refine qq (Qt.bz rfl rfl rfl) ?_;refine go [.m] (k:=?_);apply az.cut 15
   ·intro Kg6;refine az.bA 50 rfl (λg6=>?_) (λg6=>?_)
    ·have eg6:=g6
     try simp only[ai]at eg6
     refine go [.m,.N,.b,.m] (k:=?_);apply az.cut 11
     ·intro Kg7;refine az.split 53 rfl (λg7=>?_) (λg7=>?_)
      ·have eg7:=g7
       try simp only[ai]at eg7
       refine go [.f,.N,.l,.m,.i,.N,.l,.m,.b,.N,.i,.l,.m,.N,.b] (k:=?_);exact bZ 64 [54,55,56,57,58,59,60,61,62,63,64] (b6 g7 _ undef) Kg7
      ·refine go [.x,.x,.x,.x,.N,.x,.x,.x,.x,.N,.x,.x,.x] (k:=?_);exact bX 64 [54,55,56,57,58,59,60,61,62,63,64] (bY g7 undef _) Kg7
     refine qg (nF g6) (Qt.aD rfl rfl rfl) ?_;exact bZ 65 [51,52,53,54,55,56,57,58,59,60,61,62,63,64,65] (bY g6 _ undef) Kg6
    ·refine go [.x,.x,.x,.x,.N,.x,.x,.x,.x,.N,.x,.x,.x,.x,.N,.x,.x,.x] (k:=?_);exact bX 65 [51,52,53,54,55,56,57,58,59,60,61,62,63,64,65] (b6 g6 undef _) Kg6
   refine qq (Qt.bz rfl rfl rfl) ?_;refine go [.Z] (k:=?_);refine cd (λc8=>?_) λc8=>?_
   ·have k8:=c8
    try simp only[ai]at c8
    refine go [.R,.a,.Z] (k:=?_);refine aM 2 ?_;have hz:rI a.aU=false:=o.eq.trans (ig (m.eq.trans (vk ((y7 (k:=o.k) (l:=(a.aU.getD o.k En.ab)) (j:=m.k)).symm.trans k8) (by omega))) (by omega));exact(congrArg (λz=>X.v (Value.bool z)) hz).symm
   have k8:=c8
   try simp only[ai]at c8
   have hbad:bad o.k (a.aU.getD o.k En.ab) m.k=false:=(y7 (k:=o.k) (l:=(a.aU.getD o.k En.ab)) (j:=m.k)).symm.trans k8;have hnb:0≤(a.aU.getD o.k En.ab).getD m.k En.ab∧(a.aU.getD o.k En.ab).getD m.k En.ab<16∧(a.aU.getD o.k En.ab).getD m.k En.ab%(2 ^ o.k:Nat)=0:=xT hbad;have hf:(a.aU.getD o.k En.ab).getD m.k En.ab=((fp (a.aU.getD o.k En.ab) m.k:Nat):Int):=(Int.toNat_of_nonneg hnb.1).symm;have hnm:fp (a.aU.getD o.k En.ab) m.k%2 ^ o.k=0:=by have h3:=hnb.2.2;rw[hf]at h3;exact_mod_cast h3
   have hbi:=sy (n:=fp (a.aU.getD o.k En.ab) m.k) (k:=o.k) (by omega) (by omega) hnm;refine jd (bP ?_);refine go [.m,.N,.a,.Z] (k:=?_);refine AW.block ?_;refine AW.bc (L':=[.sl 8 (.v (iv (fp (a.aU.getD o.k En.ab) m.k:Nat))), .sl 6 (.v (iv m.k)), .sl 4 (.v (iv o.k)), .sl 7 (.v (iv ((a.aU.getD o.k En.ab).getD m.k En.ab))), .sl 5 (.v (iv ((2 ^ o.k:Nat):Int))), .sl 3 (.h 13 []), .rt 1 .box (T.s 1 1 λk c=>([(T.j,none)].getD (k*1+c) (T.j,none)).fst), .al 1 0 (.h aa []), .rt aa .ro (tr a.aU), .sl 1 (.p 1 [] 1 0 0), .rt 13 .row (tr m.u)]) (ar.aZ ⟨(congrArg (λz=>X.v (iv z)) hf),rfl,rfl,rfl,rfl,rfl,Rf rfl,⟨rfl,rfl⟩,Rf rfl,rfl,Rf rfl,trivial⟩ rfl rfl) ?_;refine AW.loop (λx:BV (gD m.u (fp (a.aU.getD o.k En.ab) m.k) (2 ^ o.k)) (fp (a.aU.getD o.k En.ab) m.k) (fp (a.aU.getD o.k En.ab) m.k+2 ^ o.k)=>[.sl 8 (.v (iv x.k)), .sl 6 (.v (iv m.k)), .sl 4 (.v (iv o.k)), .sl 7 (.v (iv ((a.aU.getD o.k En.ab).getD m.k En.ab))), .sl 5 (.v (iv ((2 ^ o.k:Nat):Int))), .sl 3 (.h 13 []), .rt 1 .box (T.s 1 1 λk c=>([(T.j,none)].getD (k*1+c) (T.j,none)).fst), .al 1 0 (.h aa []), .rt aa .ro (tr a.aU), .sl 1 (.p 1 [] 1 0 0), .rt 13 .row (tr x.u)]) (λx=>fp (a.aU.getD o.k En.ab) m.k+2 ^ o.k-x.k) ⟨fp (a.aU.getD o.k En.ab) m.k,by omega,Nat.le_refl _,m.u,m.ul,by rw[Nat.add_sub_cancel_left]⟩ ?_;intro x;have hlex:=x.le;have hxl:=x.ul;have hxg:=x.ge;refine go [.R2,.m,.m,.N,.m,.b,.b,.Z] (k:=?_);refine cd (λc9=>?_) λc9=>?_
   ·try simp only[ai]at c9
    refine jd (AW.seq (AW.block (bP ?_)));refine go [.m,.N,.m,.i,.l,.Z] (k:=?_);refine cd (λc10=>?_) λc10=>?_
    ·have k10:=c10
     try simp only[ai]at c10
     refine go [.R,.a,.Z] (k:=?_);refine aM 2 ?_;have hz:rI a.aU=false:=o.eq.trans (ig (m.eq.trans (pH (x.eq.trans (by rw[pG k10 (by omega)])) (by omega))) (by omega));exact(congrArg (λz=>X.v (Value.bool z)) hz).symm
    have k10:=c10
    try simp only[ai]at c10
    refine go [.J,.R1,.m,.N,.m,.i,.s,.Z,.R1,.m,.N,.b,.a,.Z] (k:=?_);refine⟨⟨x.k+1,by omega,by omega,x.u.set x.k true,by simp[x.ul],x.eq.trans (by rw[oE k10 (by omega),Nat.sub_sub])⟩,ar.aZ ⟨fe,rfl,rfl,rfl,rfl,rfl,Rf rfl,⟨rfl,rfl⟩,Rf rfl,rfl,⟨_,rfl,(bN (λk c hk=>by simp only[aj,hk,false_and,if_false];try rfl) (λc hc=>match c,hc with|0,_=>(by simp only[aj,eq_self,and_self,if_true];exact au)|c+1,hc=>absurd hc (by simp only[En.n];omega)))⟩,trivial⟩ rfl rfl,?_⟩;show fp (a.aU.getD o.k En.ab) m.k+2 ^ o.k-(x.k+1)<fp (a.aU.getD o.k En.ab) m.k+2 ^ o.k-x.k;omega
   try simp only[ai]at c9
   have hpaint:gD m.u (fp (a.aU.getD o.k En.ab) m.k) (2 ^ o.k)=some x.u:=x.eq.trans (by rw[show fp (a.aU.getD o.k En.ab) m.k+2 ^ o.k-x.k=0 by omega];rfl);refine AW.exit ?_;dsimp only[aJ,ay,reduceIte];refine go [.R,.m,.N,.b,.m] (k:=?_);apply az.cut 5
   ·intro Kg11;refine az.split 84 rfl (λg11=>?_) (λg11=>?_)
    ·have eg11:=g11
     try simp only[ai]at eg11
     refine go [.m,.N,.m] (k:=?_);refine qg g11 (Qt.binOp rfl rfl (by first|exact eJ (by omega)|rfl)) ?_;refine qg g11 (Qt.binOp rfl rfl (by first|exact lb _|rfl|exact ls (by omega))) ?_;refine go [.N,.b] (k:=?_);exact bZ 89 [85,86,87,88,89] (b6 g11 _ undef) Kg11
    ·refine go [.x,.x,.x,.x,.N,.x] (k:=?_);exact bX 89 [85,86,87,88,89] (bY g11 undef _) Kg11
   refine qq (Qt.aD rfl rfl rfl) ?_;refine go [.m,.N] (k:=?_);apply az.cut 9
   ·intro Kg12;refine az.split 91 rfl (λg12=>?_) (λg12=>?_)
    ·have eg12:=g12
     try simp only[ai]at eg12
     refine go [.f,.l,.m,.N,.i,.l,.m,.N,.m,.b] (k:=?_);refine az.step rfl g12 (aK.aL rfl (by decide) Tryz.call143 rfl rfl (oL _ _)) ?_;refine go [.N] (k:=?_);exact bZ 100 [92,93,94,95,96,97,98,99,100] (b6 g12 _ undef) Kg12
    ·refine go [.x,.x,.x,.x,.N,.x,.x,.x,.x,.N,.x] (k:=?_);exact bX 100 [92,93,94,95,96,97,98,99,100] (bY g12 undef _) Kg12
   refine qq (Qt.aD rfl rfl rfl) ?_;refine go [.Z] (k:=?_);refine cd (λc13=>?_) λc13=>?_
   ·have k13:=c13
    try simp only[ai]at c13
    refine go [.R,.a,.Z] (k:=?_);refine aM 2 ?_;have hz:rI a.aU=false:=o.eq.trans (ig (m.eq.trans (vg hpaint ((y9 (k:=o.k) (l:=(a.aU.getD o.k En.ab)) (j:=m.k) hnb.1).symm.trans k13) (by omega))) (by omega));exact(congrArg (λz=>X.v (Value.bool z)) hz).symm
   have k13:=c13
   try simp only[ai]at c13
   have hbud:=(y9 (k:=o.k) (l:=(a.aU.getD o.k En.ab)) (j:=m.k) hnb.1).symm.trans k13;refine go [.J,.R1,.m,.N,.b,.a,.Z] (k:=?_);refine⟨⟨m.k+1,by omega,x.u,x.ul,m.eq.trans (by rw[sB hbad hpaint hbud (by omega),Nat.sub_sub])⟩,ws,?_⟩;show(a.aU.getD o.k En.ab).length-(m.k+1)<(a.aU.getD o.k En.ab).length-m.k;omega
  try simp only[ai]at c3
  refine AW.exit ?_;dsimp only[aJ,ay,reduceIte];refine go [.R1,.m,.N,.b,.a,.Z] (k:=?_);refine⟨⟨o.k+1,by omega,m.u,m.ul,o.eq.trans (by rw[pR (u':=m.u) (m.eq.trans (by rw[show(a.aU.getD o.k En.ab).length-m.k=0 by omega];rfl)) (by omega),Nat.sub_sub])⟩,ws,?_⟩;show 5-(o.k+1)<5-o.k;omega
 try simp only[ai]at c2
 refine AW.exit ?_;dsimp only[aJ,ay,reduceIte];refine go [.R,.a,.Z] (k:=?_);refine aM 2 ?_;have hz:rI a.aU=true:=o.eq.trans (by rw[show 5-o.k=0 by omega];rfl);exact(congrArg (λz=>X.v (Value.bool z)) hz).symm
end Go.Proofs.YtekcnnngjoonbaaGreat.VM

