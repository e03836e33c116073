/- Contracts. No conditions. -/
import Derived.Test.YtekcnnngjoonbaaGreatWm
import Derived.Test.YtekcnnngjoonbaaGreatWn
set_option linter.all false
set_option maxHeartbeats 8000000
set_option maxRecDepth 10000
namespace Go.Proofs.YtekcnnngjoonbaaGreat.VM
open List Nat
open Go Go.RowKit Go.Proofs
set_option maxRecDepth 10000 in
theorem lD(a:gN):bf Tryz.prog 82 [.g [.h aa []]] [.rt aa .ro (tr a.aU)] (λy _=>y= .v (.bool (w8 a.aU))):=by
 refine ob Tryz.func82 Tryz.ntmps82 ?_;refine go [.R,.B,.N,.a,.Z,.R2,.f,.l,.N,.h,.b,.Z] (k:=?_);refine cd (λc1=>?_) λc1=>?_
 ·try simp only[ai]at c1
  refine go [.R,.a,.Z] (k:=?_);refine aM 2 ?_;rw[show w8 a.aU=false by unfold w8;exact if_neg (by omega)];rfl
 try simp only[ai]at c1
 have hlen:a.aU.length=5:=by omega
 refine go [.J,.R] (k:=?_);refine sp (aK.makeSlice rfl (by decide) (by decide) rfl rfl (by omega) (by omega) (by omega)) ?_;refine go [.N,.a,.Z,.R2,.f,.l,.N,.h,.m,.Z] (k:=?_);refine AW.block ?_;refine AW.bc (L':=[.sl 18 (.v (iv (0:Nat))), .sl 17 (.v (iv a.aU.length)), .sl 16 (.h aa []), .sl 3 (.h 14 []), .rt 1 .box (T.s 1 1 λk c=>([(T.j,none)].getD (k*1+c) (T.j,none)).fst), .al 1 0 (.h aa []), .rt aa .ro (tr a.aU), .sl 1 (.p 1 [] 1 0 0), .rt 14 .row (tr (replicate 16 false))]) (ar.aZ ⟨rfl,rfl,rfl,rfl,Rf rfl,⟨rfl,rfl⟩,Rf rfl,rfl,⟨_,rfl,nE 16⟩,trivial⟩ rfl rfl) ?_;refine AW.loop (λo:Bb (y6 a.aU) (w8 a.aU)=>[.sl 18 (.v (iv o.k)), .sl 17 (.v (iv a.aU.length)), .sl 16 (.h aa []), .sl 3 (.h 14 []), .rt 1 .box (T.s 1 1 λk c=>([(T.j,none)].getD (k*1+c) (T.j,none)).fst), .al 1 0 (.h aa []), .rt aa .ro (tr a.aU), .sl 1 (.p 1 [] 1 0 0), .rt 14 .row (tr o.u)]) (λo=>5-o.k) ⟨0,by omega,replicate 16 false,by simp,by unfold w8;rw[if_pos hlen]⟩ ?_;intro o;have hleo:=o.le;refine go [.R,.b,.Z] (k:=?_);refine AW.seq ?_;refine cd (λc2=>?_) λc2=>?_
 ·try simp only[ai]at c2
  refine jd (AW.seq (AW.block (sr ?_)));refine go [.m,.N,.i,.l,.a,.N,.a,.Z,.R,.a,.Z,.R,.m,.N,.h,.m,.Z] (k:=?_);refine AW.block ?_;refine AW.bc (L':=[.sl 25 (.v (iv (0:Nat))), .sl 18 (.v (iv o.k)), .sl 24 (.v (iv (a.aU.getD o.k En.ab).length)), .sl 23 (.h aa [(1,o.k,0)]), .sl 4 (.v (iv o.k)), .sl 5 (.h aa [(1,o.k,0)]), .sl 6 (.v (iv (n6 (a.aU.getD o.k En.ab) 0))), .sl 17 (.v (iv a.aU.length)), .sl 16 (.h aa []), .sl 3 (.h 14 []), .rt 1 .box (T.s 1 1 λk c=>([(T.j,none)].getD (k*1+c) (T.j,none)).fst), .al 1 0 (.h aa []), .rt aa .ro (tr a.aU), .sl 1 (.p 1 [] 1 0 0), .rt 14 .row (tr o.u)]) (ws) ?_;refine AW.loop (λm:Az (a.aU.getD o.k En.ab) (oP o.k (a.aU.getD o.k En.ab)) o.k (y6 a.aU o.k o.u)=>[.sl 25 (.v (iv m.k)), .sl 18 (.v (iv o.k)), .sl 24 (.v (iv (a.aU.getD o.k En.ab).length)), .sl 23 (.h aa [(1,o.k,0)]), .sl 4 (.v (iv o.k)), .sl 5 (.h aa [(1,o.k,0)]), .sl 6 (.v (iv (n6 (a.aU.getD o.k En.ab) m.k))), .sl 17 (.v (iv a.aU.length)), .sl 16 (.h aa []), .sl 3 (.h 14 []), .rt 1 .box (T.s 1 1 λk c=>([(T.j,none)].getD (k*1+c) (T.j,none)).fst), .al 1 0 (.h aa []), .rt aa .ro (tr a.aU), .sl 1 (.p 1 [] 1 0 0), .rt 14 .row (tr m.u)]) (λm=>(a.aU.getD o.k En.ab).length-m.k) ⟨0,zero_le _,o.u,o.ul,rfl⟩ ?_;intro m;have hlem:=m.le;have hpw:=zQ (k:=o.k) (by omega);refine AW.len aa [(1,o.k,0)] rfl (by refine⟨rfl,?_,lt_succ_self 0,trivial⟩;show o.k<a.aU.length;omega) rfl (λhl=>?_);refine go [.R,.b,.Z] (k:=?_);refine AW.seq ?_;refine cd (λc3=>?_) λc3=>?_
  ·try simp only[ai]at c3
   refine jd (AW.seq (AW.block (sr ?_)));refine go [.i,.N,.l,.a,.Z,.R2,.m,.N] (k:=?_);refine cv Tryz.call112 rfl rfl (mL _) ?_;refine go [.N,.n,.m] (k:=?_);apply az.cut 3
   ·intro Kg4;refine az.bA 32 rfl (λg4=>?_) (λg4=>?_)
    ·have eg4:=g4
     try simp only[ai]at eg4
     refine go [.m,.N,.m,.b] (k:=?_);exact bZ 35 [33,34,35] (bY g4 _ undef) Kg4
    ·refine go [.x,.x,.x] (k:=?_);exact bX 35 [33,34,35] (b6 g4 undef _) Kg4
   refine qq (Qt.bz rfl rfl rfl) ?_;refine go [.N,.m] (k:=?_);apply az.cut 5
   ·intro Kg5;refine az.bA 37 rfl (λg5=>?_) (λg5=>?_)
    ·have eg5:=g5
     try simp only[ai]at eg5
     refine go [.m,.m,.N] (k:=?_);refine qg (nF g5) (Qt.binOp rfl rfl (by first|exact q9 (by omega)|rfl)) ?_;refine qg (nF g5) (Qt.binOp rfl rfl (by first|exact lb _|rfl|exact ls (by omega))) ?_;refine go [.b,.N] (k:=?_);exact bZ 42 [38,39,40,41,42] (bY g5 _ undef) Kg5
    ·refine go [.x,.x,.x,.x,.N,.x] (k:=?_);exact bX 42 [38,39,40,41,42] (b6 g5 undef _) Kg5
   refine qq (Qt.bz rfl rfl rfl) ?_;refine go [.Z] (k:=?_);refine cd (λc6=>?_) λc6=>?_
   ·have k6:=c6
    try simp only[ai]at c6
    refine go [.R,.a,.Z] (k:=?_);refine aM 2 ?_;have hz:w8 a.aU=false:=o.eq.trans (ig (m.eq.trans (vk ((zg (k:=o.k) (l:=(a.aU.getD o.k En.ab)) (j:=m.k)).symm.trans k6) (by omega))) (by omega));exact(congrArg (λz=>X.v (Value.bool z)) hz).symm
   have k6:=c6
   try simp only[ai]at c6
   have hbad:bad o.k (a.aU.getD o.k En.ab) m.k=false:=(zg (k:=o.k) (l:=(a.aU.getD o.k En.ab)) (j:=m.k)).symm.trans k6;have hnb:0≤(a.aU.getD o.k En.ab).getD m.k En.ab∧(a.aU.getD o.k En.ab).getD m.k En.ab<16∧(a.aU.getD o.k En.ab).getD m.k En.ab%(2 ^ o.k:Nat)=0:=xT hbad;have hf:(a.aU.getD o.k En.ab).getD m.k En.ab=((fp (a.aU.getD o.k En.ab) m.k:Nat):Int):=(Int.toNat_of_nonneg hnb.1).symm;have hnm:fp (a.aU.getD o.k En.ab) m.k%2 ^ o.k=0:=by have h3:=hnb.2.2;rw[hf]at h3;exact_mod_cast h3
   have hbi:=sy (n:=fp (a.aU.getD o.k En.ab) m.k) (k:=o.k) (by omega) (by omega) hnm;refine go [.J,.R,.m,.N,.a,.Z,.R2,.m,.a,.Z] (k:=?_);refine AW.block ?_;refine AW.bc (L':=[.sl 9 (.v (iv (fp (a.aU.getD o.k En.ab) m.k:Nat))), .sl 25 (.v (iv m.k)), .sl 18 (.v (iv o.k)), .sl 8 (.v (iv (fp (a.aU.getD o.k En.ab) m.k:Nat))), .sl 24 (.v (iv (a.aU.getD o.k En.ab).length)), .sl 23 (.h aa [(1,o.k,0)]), .sl 4 (.v (iv o.k)), .sl 5 (.h aa [(1,o.k,0)]), .sl 6 (.v (iv ((a.aU.getD o.k En.ab).getD m.k En.ab))), .sl 17 (.v (iv a.aU.length)), .sl 16 (.h aa []), .sl 3 (.h 14 []), .rt 1 .box (T.s 1 1 λk c=>([(T.j,none)].getD (k*1+c) (T.j,none)).fst), .al 1 0 (.h aa []), .rt aa .ro (tr a.aU), .sl 1 (.p 1 [] 1 0 0), .rt 14 .row (tr m.u)]) (ar.aZ ⟨(congrArg (λz=>X.v (iv z)) hf),rfl,rfl,(congrArg (λz=>X.v (iv z)) hf),rfl,rfl,rfl,rfl,rfl,rfl,rfl,rfl,Rf rfl,⟨rfl,rfl⟩,Rf rfl,rfl,Rf rfl,trivial⟩ rfl rfl) ?_;refine AW.loop (λx:BV (gD m.u (fp (a.aU.getD o.k En.ab) m.k) (2 ^ o.k)) (fp (a.aU.getD o.k En.ab) m.k) (fp (a.aU.getD o.k En.ab) m.k+2 ^ o.k)=>[.sl 9 (.v (iv x.k)), .sl 25 (.v (iv m.k)), .sl 18 (.v (iv o.k)), .sl 8 (.v (iv (fp (a.aU.getD o.k En.ab) m.k:Nat))), .sl 24 (.v (iv (a.aU.getD o.k En.ab).length)), .sl 23 (.h aa [(1,o.k,0)]), .sl 4 (.v (iv o.k)), .sl 5 (.h aa [(1,o.k,0)]), .sl 6 (.v (iv ((a.aU.getD o.k En.ab).getD m.k En.ab))), .sl 17 (.v (iv a.aU.length)), .sl 16 (.h aa []), .sl 3 (.h 14 []), .rt 1 .box (T.s 1 1 λk c=>([(T.j,none)].getD (k*1+c) (T.j,none)).fst), .al 1 0 (.h aa []), .rt aa .ro (tr a.aU), .sl 1 (.p 1 [] 1 0 0), .rt 14 .row (tr x.u)]) (λx=>fp (a.aU.getD o.k En.ab) m.k+2 ^ o.k-x.k) ⟨fp (a.aU.getD o.k En.ab) m.k,by omega,Nat.le_refl _,m.u,m.ul,by rw[Nat.add_sub_cancel_left]⟩ ?_;intro x;have hlex:=x.le;have hxl:=x.ul;have hxg:=x.ge;refine go [.R2,.m,.N,.m,.m] (k:=?_);refine qq (Qt.binOp rfl rfl (by first|exact q9 (by omega)|rfl)) ?_;refine go [.N,.b,.b,.Z] (k:=?_);refine cd (λc7=>?_) λc7=>?_
   ·try simp only[ai]at c7
    refine jd (AW.seq (AW.block (bP ?_)));refine go [.m,.N,.m,.i,.l,.Z] (k:=?_);refine cd (λc8=>?_) λc8=>?_
    ·have k8:=c8
     try simp only[ai]at c8
     refine go [.R,.a,.Z] (k:=?_);refine aM 2 ?_;have hz:w8 a.aU=false:=o.eq.trans (ig (m.eq.trans (pH (x.eq.trans (by rw[pG k8 (by omega)])) (by omega))) (by omega));exact(congrArg (λz=>X.v (Value.bool z)) hz).symm
    have k8:=c8
    try simp only[ai]at c8
    refine go [.J,.R1,.m,.N,.m,.i,.s,.Z,.R1,.m,.N,.b,.a,.Z] (k:=?_);refine⟨⟨x.k+1,by omega,by omega,x.u.set x.k true,by simp[x.ul],x.eq.trans (by rw[oE k8 (by omega),Nat.sub_sub])⟩,ar.aZ ⟨fe,rfl,rfl,rfl,rfl,rfl,rfl,rfl,rfl,rfl,rfl,rfl,Rf rfl,⟨rfl,rfl⟩,Rf rfl,rfl,⟨_,rfl,(bN (λk c hk=>by simp only[aj,hk,false_and,if_false];try rfl) (λc hc=>match c,hc with|0,_=>(by simp only[aj,eq_self,and_self,if_true];exact au)|c+1,hc=>absurd hc (by simp only[En.n];omega)))⟩,trivial⟩ rfl rfl,?_⟩;show fp (a.aU.getD o.k En.ab) m.k+2 ^ o.k-(x.k+1)<fp (a.aU.getD o.k En.ab) m.k+2 ^ o.k-x.k;omega
   try simp only[ai]at c7
   have hpaint:gD m.u (fp (a.aU.getD o.k En.ab) m.k) (2 ^ o.k)=some x.u:=x.eq.trans (by rw[show fp (a.aU.getD o.k En.ab) m.k+2 ^ o.k-x.k=0 by omega];rfl);refine AW.exit ?_;dsimp only[aJ,ay,reduceIte];refine go [.R,.m,.N,.b,.m] (k:=?_);apply az.cut 5
   ·intro Kg9;refine az.split 63 rfl (λg9=>?_) (λg9=>?_)
    ·have eg9:=g9
     try simp only[ai]at eg9
     refine go [.m,.N,.m,.m] (k:=?_);refine az.step rfl g9 (aK.aL rfl (by decide) Tryz.call156 rfl rfl (sW (fp (a.aU.getD o.k En.ab) m.k) o.k (by omega) (by omega))) ?_;refine go [.N] (k:=?_);refine az.step rfl g9 (aK.aL rfl (by decide) Tryz.call155 rfl rfl (kT _ _)) ?_;refine go [.N] (k:=?_);exact bZ 68 [64,65,66,67,68] (b6 g9 _ undef) Kg9
    ·refine go [.x,.x,.x,.x,.N,.x] (k:=?_);exact bX 68 [64,65,66,67,68] (bY g9 undef _) Kg9
   refine qq (Qt.aD rfl rfl rfl) ?_;refine go [.Z] (k:=?_);refine cd (λc10=>?_) λc10=>?_
   ·have k10:=c10
    try simp only[ai]at c10
    refine go [.R,.a,.Z] (k:=?_);refine aM 2 ?_;have hz:w8 a.aU=false:=o.eq.trans (ig (m.eq.trans (vg hpaint ((zd (k:=o.k) (l:=(a.aU.getD o.k En.ab)) (j:=m.k)).symm.trans k10) (by omega))) (by omega));exact(congrArg (λz=>X.v (Value.bool z)) hz).symm
   have k10:=c10
   try simp only[ai]at c10
   have hbud:=(zd (k:=o.k) (l:=(a.aU.getD o.k En.ab)) (j:=m.k)).symm.trans k10;refine go [.J,.R1,.b,.N,.m,.Z] (k:=?_);refine⟨⟨m.k+1,by omega,x.u,x.ul,m.eq.trans (by rw[sB hbad hpaint hbud (by omega),Nat.sub_sub])⟩,ws,?_⟩;show(a.aU.getD o.k En.ab).length-(m.k+1)<(a.aU.getD o.k En.ab).length-m.k;omega
  try simp only[ai]at c3
  refine AW.exit ?_;dsimp only[aJ,ay,reduceIte];refine go [.R1,.b,.m,.Z] (k:=?_);refine⟨⟨o.k+1,by omega,m.u,m.ul,o.eq.trans (by rw[pR (u':=m.u) (m.eq.trans (by rw[show(a.aU.getD o.k En.ab).length-m.k=0 by omega];rfl)) (by omega),Nat.sub_sub])⟩,ws,?_⟩;show 5-(o.k+1)<5-o.k;omega
 try simp only[ai]at c2
 refine AW.exit ?_;dsimp only[aJ,ay,reduceIte];refine go [.R,.a,.Z] (k:=?_);refine aM 2 ?_;have hz:w8 a.aU=true:=o.eq.trans (by rw[show 5-o.k=0 by omega];rfl);exact(congrArg (λz=>X.v (Value.bool z)) hz).symm
open Go Go.RowKit Go.Proofs
theorem wx(a:gN)(f:Int)(h5:a.aU.length=5)(hf:frame f=true):bf Tryz.prog 79 [.g [.h aa []], .v (iv f)] [.rt aa .ro (tr a.aU)] (λy _=>y= .v (.bool (tw a.aU f))):=by
 refine ob Tryz.func79 Tryz.ntmps79 ?_;have hf2:=jB.1 hf;refine AW.len (aa) [] rfl (by simp[ck]) rfl (λhl=>?_);refine go [.R,.B,.N,.a,.Z,.R2,.a,.Z] (k:=?_);refine AW.block ?_;refine AW.bw (λi:mO a.aU f=>[.sl 5 (.v (iv i.k)), .sl 1 (.v (iv f)), .sl 2 (.p 2 [] 1 0 0), .rt 2 .box (T.s 1 1 λk c=>([(T.j,none)].getD (k*1+c) (T.j,none)).fst), .al 2 0 (.h aa []), .rt aa .ro (tr a.aU)]) (λi=>a.aU.length-i.k) ⟨0,zero_le _,λ_ h=>absurd h (not_lt_zero _)⟩ (ws) ?_;intro i;have hle:=i.le;refine go [.R2,.m,.N,.f,.l,.h,.N,.b,.Z] (k:=?_);refine cd (λc1=>?_) λc1=>?_
 ·try simp only[ai]at c1
  have hpw:=zQ (k:=i.k) (by omega);have htm:=xU (f:=f) (k:=i.k) hf2.1;have hpz:((2 ^ i.k:Nat):Int)≠0:=by omega
  refine jd (AW.seq (AW.block (AW.seq ?_)));refine go [.D [0,1,2,3,4,5,6,7,9,10],.t 0,.f,.t 1,.l,.N,.t 2,.m,.t 3,.i,.t 4,.l,.N,.t 5,.m,.t 6,.m,.t 7,.m,.N] (k:=?_);refine a1 8 [0,1,2,3,4,5,6] [7] rfl rfl (aK.aL rfl (by decide) Tryz.call142 rfl rfl (oU i.k (by omega))) ?_;refine go [.N,.g,.f,.N,.g,.l,.N,.g,.m,.N,.g,.i,.N,.g,.l,.N,.g,.m,.N,.g,.m,.N] (k:=?_);refine tk 9 rfl (Qt.binOp rfl rfl (by first|exact lb _|rfl|exact ls (by omega))) ?_;refine go [.t 10,.b] (k:=?_);refine a1 11 [] [10,8,4,9,5,7,3,6,2,1,0] rfl rfl (aK.aL rfl (by decide) Tryz.call143 rfl rfl (oL _ _)) ?_;refine go [.N,.Z] (k:=?_);refine cd (λc2=>?_) λc2=>?_
  ·try simp only[ai]at c2
   refine go [.R,.a,.Z] (k:=?_);refine aM 4 ?_;rw[i.yes (by omega) (by rw[sa,←htm.1];exact c2)];rfl
  try simp only[ai]at c2
  refine go [.J,.R1,.m,.b,.N,.a,.Z] (k:=?_);refine⟨⟨i.k+1,by omega,i.next (by rw[sa,←htm.1];exact c2)⟩,ws,?_⟩;show a.aU.length-(i.k+1)<a.aU.length-i.k;omega
 try simp only[ai]at c1
 refine AW.exit ?_;dsimp only[aJ,ay,reduceIte];refine go [.R,.a,.Z] (k:=?_);refine aM 4 ?_;rw[i.not (by omega)];rfl
open Go Go.RowKit Go.Proofs
theorem wA:∀n:Nat,n<16→∀k:Nat,k<5→(n:Int).fdiv (2 ^ (min (k:Int).toNat 64))=((n / 2 ^ k:Nat):Int):=by decide +kernel
theorem Ad{n k:Nat}(hn:n<16)(hk:k<5):dV .shr (iv (n:Int)) (iv (k:Int))=some (iv ((n / 2 ^ k:Nat):Int)):=by
 show(if(k:Int)<0 then none else some (Value.int .i64 ((n:Int).fdiv (2 ^ (min (k:Int).toNat 64)))))=_;rw[if_neg (by omega),wA n hn k hk]
theorem vT:∀n:Nat,n<16→∀k:Nat,k<5→IntKind.i64.wrap (((n / 2 ^ k:Nat):Int)*2 ^ (min (k:Int).toNat 64))=(n:Int)-(n:Int)%((2 ^ k:Nat):Int):=by decide +kernel
theorem Ab{n k:Nat}(hn:n<16)(hk:k<5):dV .shl (iv ((n / 2 ^ k:Nat):Int)) (iv (k:Int))=some (iv ((n:Int)-(n:Int)%((2 ^ k:Nat):Int))):=by
 show(if(k:Int)<0 then none else some (Value.int .i64 (IntKind.i64.wrap (((n / 2 ^ k:Nat):Int)*2 ^ (min (k:Int).toNat 64)))))=_;rw[if_neg (by omega),vT n hn k hk]
theorem uR(a:gN)(f:Int)(h5:a.aU.length=5)(hf:frame f=true):bf Tryz.prog 83 [.g [.h aa []], .v (iv f)] [.rt aa .ro (tr a.aU)] (λy _=>y= .v (.bool (tw a.aU f))):=by
 refine ob Tryz.func83 Tryz.ntmps83 ?_;obtain⟨n,rfl⟩:=Int.eq_ofNat_of_zero_le (jB.1 hf).1;have hn16:n<16:=by have:=(jB.1 hf).2;omega
 refine AW.len (aa) [] rfl (by simp[ck]) rfl (λhl=>?_);refine go [.R,.B,.N,.a,.Z,.R2,.f,.l,.N,.h,.m,.Z] (k:=?_);refine AW.block ?_;refine AW.bw (λi:mO a.aU (n:Int)=>[.sl 10 (.v (iv i.k)), .sl 9 (.v (iv a.aU.length)), .sl 8 (.h aa []), .sl 1 (.v (iv n)), .rt aa .ro (tr a.aU)]) (λi=>a.aU.length-i.k) ⟨0,zero_le _,λ_ h=>absurd h (not_lt_zero _)⟩ (ws) ?_;intro i;have hle:=i.le;refine go [.R,.b,.Z] (k:=?_);refine AW.seq ?_;refine cd (λc1=>?_) λc1=>?_
 ·try simp only[ai]at c1
  refine jd (AW.seq (AW.block (sr ?_)));refine go [.m,.N,.i,.l,.a,.N,.a,.Z,.R,.m,.m,.N,.m] (k:=?_);refine qq (Qt.binOp rfl rfl (Ad hn16 (by omega))) ?_;refine go [.m,.N] (k:=?_);refine qq (Qt.binOp rfl rfl (Ab hn16 (by omega))) ?_;refine cv Tryz.call155 rfl rfl (kT _ _) ?_;refine go [.Z] (k:=?_);refine cd (λc2=>?_) λc2=>?_
  ·try simp only[ai]at c2
   refine go [.R,.a,.Z] (k:=?_);refine aM 4 ?_;rw[i.yes (by omega) c2];rfl
  try simp only[ai]at c2
  refine go [.J,.R1,.b,.N,.m,.Z] (k:=?_);refine⟨⟨i.k+1,by omega,i.next c2⟩,ws,?_⟩;show a.aU.length-(i.k+1)<a.aU.length-i.k;omega
 try simp only[ai]at c1
 refine AW.exit ?_;dsimp only[aJ,ay,reduceIte];refine go [.R,.a,.Z] (k:=?_);refine aM 4 ?_;rw[i.not (by omega)];rfl
open Go Go.RowKit Go.Proofs
theorem nM{l m:List Int}{n:Nat}{g:Nat→Nat→T}(hn:n=m.length)(hg:∀k,k<m.length→g k 0= .v (iv (m.getD k En.ab))):(q8 1 l.length (λk c=>[T.v (iv (l.getD k En.ab))].getD c .j) n g).aZ (tr (l++m)):=by
 subst hn;show T.aZ _ (.s 1 (l++m).length λk c=>[T.v (iv ((l++m).getD k En.ab))].getD c .j);rw[length_append];refine T.wJ λk c hk hc=>?_;obtain rfl:c=0:=by omega
 show(if k<l.length then _ else _)=T.v (iv ((l++m).getD k En.ab))
 by_cases h:k<l.length
 ·rw[if_pos h,getD_eq_getElem?_getD (l:=l++m),getElem?_append_left h,←getD_eq_getElem?_getD];rfl
 ·rw[if_neg h,hg _ (by omega),getD_eq_getElem?_getD (l:=l++m),getElem?_append_right (by omega),←getD_eq_getElem?_getD]
theorem vu{l jo:List Int}{f:Int}(hr:jo.length=64)(h0:0≤f)(h1:f≤15):(q8 1 l.length (λk c=>[T.v (iv (l.getD k En.ab))].getD c .j) (((f+1)*4).toNat-(f*4).toNat) λk c=>j9 ([T.v (iv (jo.getD ((f*4).toNat+k) En.ab))].getD c .j)).aZ (tr (l++wG jo f)):=by
 have e:(wG jo f).length=4:=by unfold wG;rw[length_take,length_drop];omega
 refine nM (by rw[e];omega) λk hk=>?_;rw[e]at hk;show T.v (iv (jo.getD ((f*4).toNat+k) En.ab))=_;unfold wG;rw[getD_eq_getElem?_getD (l:=take _ _),getElem?_take_of_lt hk,getElem?_drop,←getD_eq_getElem?_getD]
theorem wy(jo fs:List Int)(hr:jo.length=64)(hf:∀k,k<fs.length→0≤fs.getD k En.ab∧fs.getD k En.ab≤15)(hl:fs.length≤1048576):bf Tryz.prog 41 [.h aa [], .h (aa+1) []] [.rt aa .ro (tr jo), .rt (aa+1) .ro (tr fs)] (jY (.h 0 []) [(0, .row,tr (jG jo fs fs.length))]):=by
 refine ob Tryz.func41 Tryz.ntmps41 ?_;refine sr ?_;refine fi ?_;refine qn ?_;refine bP ?_;refine mn ?_;refine qh jj ?_;refine qm ?_;refine nl ?_;refine AW.block ?_;refine AW.k7 5 18 1 (by omega) rfl rfl (by decide) ?_;refine AW.bw (λi:ei fs.length=>[.sl 10 (.v (iv i.k)), .sl 9 (.v (iv fs.length)), .sl 8 (.h (aa+1) []), .sl 5 (.h 18 []), .rt 18 .row (tr (jG jo fs i.k)), .sl 0 (.h aa []), .rt aa .ro (tr jo), .rt (aa+1) .ro (tr fs)]) (λi=>fs.length-i.k) ⟨0,zero_le _⟩ (ar.aZ ⟨rfl,rfl,rfl,rfl,⟨_,rfl,bS⟩,rfl,Rf rfl,Rf rfl,trivial⟩ rfl rfl) ?_;intro i;have hle:=i.le;have hml:=ov jo fs i.k i.le;refine sr ?_;refine qb ?_;refine nl ?_;refine AW.seq ?_;refine cd (λc1=>?_) λc1=>?_
 ·try simp only[ai]at c1
  have hfi:=hf i.k (by omega);have hfw:=rf jo (fs.getD i.k En.ab);refine jd (AW.seq (AW.block (sr ?_)));refine qq (ix jj fX) ?_;refine nm ?_;refine ql aX ?_;refine qn ?_;refine AW.region ?_;refine mn ?_;refine qm ?_;refine qm ?_;refine sp (aK.AR rfl (by decide) Tryz.call117 rfl rfl rfl rfl (by omega) (oR jo _ hr hfi.1 hfi.2)) ?_;refine nm ?_;refine sp (by first|exact aK.cW rfl (by decide) (by decide) rfl rfl (by omega)|exact aK.bu rfl (by decide) (by decide) rfl rfl rfl (by omega)) ?_;refine nm ?_;refine qn ?_;refine AW.region ?_;refine ba ?_;refine qm ?_;refine nl ?_;refine⟨⟨i.k+1,by omega⟩,ar.aZ ⟨fe,rfl,rfl,rfl,⟨_,rfl,(by rw[mj (by omega)];exact vu hr hfi.1 hfi.2)⟩,rfl,Rf rfl,Rf rfl,trivial⟩ rfl rfl,?_⟩;show fs.length-(i.k+1)<fs.length-i.k;omega
 try simp only[ai]at c1
 refine AW.exit ?_;dsimp only[aJ,ay,reduceIte];refine sr ?_;refine mn ?_;refine qr 4 ?_;rw[show jG jo fs fs.length=jG jo fs i.k from congrArg (jG jo fs) (by omega)];refine⟨λ_=>18,rfl,ak rfl,?_⟩;intro r hr;cases List.mem_singleton.1 hr;exact⟨by simp,aq rfl⟩
end Go.Proofs.YtekcnnngjoonbaaGreat.VM
