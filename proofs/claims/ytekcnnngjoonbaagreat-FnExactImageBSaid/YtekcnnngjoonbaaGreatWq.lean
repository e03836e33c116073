/- Contracts. No conditions. -/
import Derived.Shelf.Strings.OnBuilder
import Derived.Test.YtekcnnngjoonbaaGreatWd
import Derived.Test.YtekcnnngjoonbaaGreatWe
import Derived.Test.YtekcnnngjoonbaaGreatWl
import Derived.Test.YtekcnnngjoonbaaGreatWp
set_option linter.all false
set_option maxHeartbeats 8000000
set_option maxRecDepth 10000
namespace Go.Proofs.YtekcnnngjoonbaaGreat.VM
open List Nat
open Go Go.RowKit Go.Proofs Go.Proofs.Tryz
theorem tY(u:aX)(hF:k9 u):a_ prog 158 [.g [.v (iv u.Next),.v (iv u.bp),.h aa [],.h (aa+1) [],.h (aa+2) [],.h (aa+3) [],.h (aa+4) [],.h (aa+5) [],.h (aa+6) []]] [.rt aa .ro (tr u.aP),.rt (aa+1) .ro (tr u.ag),.rt (aa+2) .ro (tr u.ao),.rt (aa+3) .ro (tr u.ak),.rt (aa+4) .ro (tr u.ay),.rt (aa+5) .ro (tr u.aN),.rt (aa+6) .ro (tr u.Out)] (λy _=>y= .v (.string (dn u))):=by
 refine ob func158 ntmps158 ?_;refine AW.len (aa) [] rfl (by simp[bT]) rfl (λhl0=>?_);refine AW.len (aa+1) [] rfl (by simp[bT]) rfl (λhl1=>?_);refine AW.len (aa+2) [] rfl (by simp[bT]) rfl (λhl2=>?_);refine AW.len (aa+3) [] rfl (by simp[bT]) rfl (λhl3=>?_);refine AW.len (aa+4) [] rfl (by simp[bT]) rfl (λhl4=>?_);refine AW.len (aa+5) [] rfl (by simp[bT]) rfl (λhl5=>?_);have hu1:=aA u.Next;have hu2:=aA u.bp;have hu9:=cl u.Out;have hu10:=hF.out;have hu11:=hF.ready;have hu12:=hF.opens;have hu13:=hF.files;have hu14:=hF.z8;have hu15:=hF.procs;have hu16:=hF.Ao;have hu20:(⟨#[117]⟩:ByteArray).size=1:=rfl;have hn0:=aA u.aP.length;have ho0:=iD hF (k:=0) (zero_le _);have hp0:=iD hF (Nat.le_refl _);have hn1:=aA u.ag.length;have ho1:=iu hF (k:=0) (zero_le _);have hp1:=iu hF (Nat.le_refl _);have hn2:=aA u.ao.length;have ho2:=iz hF (k:=0) (zero_le _);have hp2:=iz hF (Nat.le_refl _);have hn3:=aA u.ak.length;have ho3:=iy hF (k:=0) (zero_le _);have hp3:=iy hF (Nat.le_refl _);have hn4:=aA u.ay.length;have ho4:=im hF (k:=0) (zero_le _);have hp4:=im hF (Nat.le_refl _);have hn5:=aA u.aN.length;have ho5:=jH hF (k:=0) (zero_le _);have hp5:=jH hF (Nat.le_refl _);refine go [.R,.B,.N,.a,.Z] ?_;refine AW.seq ?_;refine go [.D [0,1,3,4,5,7,8,9,10,12,13],.t 0,.f,.t 1,.l,.N,.t 4,.f,.t 5,.l,.t 8,.f,.N,.t 9,.l,.t 10,.h] ?_;refine a1 2 [4,5,8,9,10] [1,0] rfl rfl (aE.aC rfl (by decide) call208 rfl rfl (bA _)) ?_;refine go [.N,.g,.f,.g,.l,.g,.f,.g,.l,.g,.h,.N] ?_;refine tk 3 rfl (Qt.binOp rfl rfl c_) ?_;refine a1 6 [3,8,9,10] [5,2,4,1,0] rfl rfl (aE.aC rfl (by decide) call208 rfl rfl (bA _)) ?_;refine go [.N] ?_;refine ae rfl (Qt.binOp rfl rfl c_) ?_;refine go [.g,.f,.g,.l,.g,.h,.N] ?_;refine tk 7 rfl (Qt.binOp rfl rfl c_) ?_;refine a1 11 [3,7] [10,6,9,5,2,8,4,1,0] rfl rfl (aE.aC rfl (by decide) call208 rfl rfl (bA _)) ?_;refine go [.N] ?_;refine ae rfl (Qt.binOp rfl rfl c_) ?_;refine ae rfl (Qt.binOp rfl rfl c_) ?_;refine go [.N] ?_;refine tk 12 rfl (Qt.binOp rfl rfl c_) ?_;refine go [.t 13,.a,.Z,.R2,.a,.Z] ?_;refine AW.block ?_;refine AW.aL (λi:cV u.aP.length=>[.sl 4 (.v (iv i.k)),.sl 3 (.v (.string (ub u i.k))),.rt 1 .box (T.s 9 1 λk c=>([(T.v (iv u.Next),none),(T.v (iv u.bp),none),(T.j,none),(T.j,none),(T.j,none),(T.j,none),(T.j,none),(T.j,none),(T.j,none)].getD (k*9+c) (T.j,none)).fst),.al 1 2 (.h aa []),.al 1 3 (.h (aa+1) []),.al 1 4 (.h (aa+2) []),.al 1 5 (.h (aa+3) []),.al 1 6 (.h (aa+4) []),.al 1 7 (.h (aa+5) []),.al 1 8 (.h (aa+6) []),.rt aa .ro (tr u.aP),.rt (aa+1) .ro (tr u.ag),.rt (aa+2) .ro (tr u.ao),.rt (aa+3) .ro (tr u.ak),.rt (aa+4) .ro (tr u.ay),.rt (aa+5) .ro (tr u.aN),.rt (aa+6) .ro (tr u.Out),.sl 1 (.p 1 [] 9 0 0)]) (λi=>u.aP.length-i.k) ⟨0,zero_le _⟩ (ar.bb ⟨rfl,(by simp only[ax,reduceIte,Nat.reduceEqDiff];congr 2<;>(rw[sO]<;>first|rfl|simp only[ByteArray.append_assoc])),Rf rfl,⟨rfl,rfl⟩,⟨rfl,rfl⟩,⟨rfl,rfl⟩,⟨rfl,rfl⟩,⟨rfl,rfl⟩,⟨rfl,rfl⟩,⟨rfl,rfl⟩,Rf rfl,Rf rfl,Rf rfl,Rf rfl,Rf rfl,Rf rfl,Rf rfl,rfl,trivial⟩ rfl rfl) ?_
 intro i;have hle:=i.le;have hq0:=iD hF (k:=i.k) (by omega);have hx0:=tC u i.k;refine go [.R2,.m,.N,.f,.l,.h,.N,.b,.Z] ?_;refine cd (λc1=>?_) λc1=>?_
 ·try simp only[ah]at c1
  have hpi:=hF.prog i.k (by omega);have hpz:(gJ (u.aP.getD i.k En.ab) (u.aP.getD i.k En.ab).length).size≤1127:=ly hpi;have hpf:=kM hpi;refine jd (AW.seq (AW.block (AW.region ?_)));refine go [.m,.f,.N,.l,.m,.i,.N,.l] ?_;refine cv call209 rfl rfl (vT _ hpf.1 hpf.2) ?_;refine go [.N] ?_;refine qq (Qt.binOp rfl rfl c_) ?_;refine go [.a,.Z,.R1,.m,.N,.b,.a,.Z] ?_;refine⟨⟨i.k+1,by omega⟩,ar.bb ⟨ew,(by simp only[ax,reduceIte,Nat.reduceEqDiff];congr 2<;>(rw[hx0]<;>first|rfl|simp only[qj,ByteArray.append_assoc])),Rf rfl,⟨rfl,rfl⟩,⟨rfl,rfl⟩,⟨rfl,rfl⟩,⟨rfl,rfl⟩,⟨rfl,rfl⟩,⟨rfl,rfl⟩,⟨rfl,rfl⟩,Rf rfl,Rf rfl,Rf rfl,Rf rfl,Rf rfl,Rf rfl,Rf rfl,rfl,trivial⟩ rfl rfl,?_⟩;dsimp only;omega
 try simp only[ah]at c1
 refine AW.exit ?_;dsimp only[aD,au,reduceIte];refine go [.R,.m,.N,.f,.l,.h,.N] ?_;refine cv call208 rfl rfl (bA _) ?_;refine go [.N] ?_;refine qq (Qt.binOp rfl rfl c_) ?_;refine go [.a,.Z,.R2,.a,.Z] ?_;refine AW.block ?_;refine AW.aL (λj:cV u.ag.length=>[.sl 5 (.v (iv j.k)),.sl 3 (.v (.string (tB u j.k))),.rt 1 .box (T.s 9 1 λk c=>([(T.v (iv u.Next),none),(T.v (iv u.bp),none),(T.j,none),(T.j,none),(T.j,none),(T.j,none),(T.j,none),(T.j,none),(T.j,none)].getD (k*9+c) (T.j,none)).fst),.al 1 2 (.h aa []),.al 1 3 (.h (aa+1) []),.al 1 4 (.h (aa+2) []),.al 1 5 (.h (aa+3) []),.al 1 6 (.h (aa+4) []),.al 1 7 (.h (aa+5) []),.al 1 8 (.h (aa+6) []),.rt aa .ro (tr u.aP),.rt (aa+1) .ro (tr u.ag),.rt (aa+2) .ro (tr u.ao),.rt (aa+3) .ro (tr u.ak),.rt (aa+4) .ro (tr u.ay),.rt (aa+5) .ro (tr u.aN),.rt (aa+6) .ro (tr u.Out),.sl 1 (.p 1 [] 9 0 0)]) (λj=>u.ag.length-j.k) ⟨0,zero_le _⟩ (ar.bb ⟨rfl,(by simp only[ax,reduceIte,Nat.reduceEqDiff];congr 2<;>(rw[tT,show ub u i.k=ub u u.aP.length from congrArg (ub u) (show i.k=u.aP.length by(try dsimp only);omega)]<;>first|rfl|simp only[ByteArray.append_assoc])),Rf rfl,⟨rfl,rfl⟩,⟨rfl,rfl⟩,⟨rfl,rfl⟩,⟨rfl,rfl⟩,⟨rfl,rfl⟩,⟨rfl,rfl⟩,⟨rfl,rfl⟩,Rf rfl,Rf rfl,Rf rfl,Rf rfl,Rf rfl,Rf rfl,Rf rfl,rfl,trivial⟩ rfl rfl) ?_;intro j;have hlej:=j.le;have hq1:=iu hF (k:=j.k) (by omega);have hx1:=tz u j.k;refine go [.R2,.m,.N,.f,.l,.h,.N,.b,.Z] ?_;refine cd (λc2=>?_) λc2=>?_
 ·try simp only[ah]at c2
  have hpi:=hF.Ce j.k (by omega);have hpz:=lJ hpi;refine jd (AW.seq (AW.block (AW.region ?_)));refine go [.m,.f,.N,.l,.m,.i,.N,.G] ?_;refine cv call210 rfl rfl (sL _ hpi) ?_;refine go [.N] ?_;refine qq (Qt.binOp rfl rfl c_) ?_;refine go [.a,.Z,.R1,.m,.N,.b,.a,.Z] ?_;refine⟨⟨j.k+1,by omega⟩,ar.bb ⟨ew,(by simp only[ax,reduceIte,Nat.reduceEqDiff];congr 2<;>(rw[hx1]<;>first|rfl|simp only[oS,ByteArray.append_assoc])),Rf rfl,⟨rfl,rfl⟩,⟨rfl,rfl⟩,⟨rfl,rfl⟩,⟨rfl,rfl⟩,⟨rfl,rfl⟩,⟨rfl,rfl⟩,⟨rfl,rfl⟩,Rf rfl,Rf rfl,Rf rfl,Rf rfl,Rf rfl,Rf rfl,Rf rfl,rfl,trivial⟩ rfl rfl,?_⟩;dsimp only;omega
 try simp only[ah]at c2
 refine AW.exit ?_;dsimp only[aD,au,reduceIte];refine go [.R,.m,.N,.f,.l,.h,.N] ?_;refine cv call208 rfl rfl (bA _) ?_;refine go [.N] ?_;refine qq (Qt.binOp rfl rfl c_) ?_;refine go [.a,.Z,.R2,.a,.Z] ?_;refine AW.block ?_;refine AW.aL (λm:cV u.ao.length=>[.sl 6 (.v (iv m.k)),.sl 3 (.v (.string (tG u m.k))),.rt 1 .box (T.s 9 1 λk c=>([(T.v (iv u.Next),none),(T.v (iv u.bp),none),(T.j,none),(T.j,none),(T.j,none),(T.j,none),(T.j,none),(T.j,none),(T.j,none)].getD (k*9+c) (T.j,none)).fst),.al 1 2 (.h aa []),.al 1 3 (.h (aa+1) []),.al 1 4 (.h (aa+2) []),.al 1 5 (.h (aa+3) []),.al 1 6 (.h (aa+4) []),.al 1 7 (.h (aa+5) []),.al 1 8 (.h (aa+6) []),.rt aa .ro (tr u.aP),.rt (aa+1) .ro (tr u.ag),.rt (aa+2) .ro (tr u.ao),.rt (aa+3) .ro (tr u.ak),.rt (aa+4) .ro (tr u.ay),.rt (aa+5) .ro (tr u.aN),.rt (aa+6) .ro (tr u.Out),.sl 1 (.p 1 [] 9 0 0)]) (λm=>u.ao.length-m.k) ⟨0,zero_le _⟩ (ar.bb ⟨rfl,(by simp only[ax,reduceIte,Nat.reduceEqDiff];congr 2<;>(rw[t_,show tB u j.k=tB u u.ag.length from congrArg (tB u) (show j.k=u.ag.length by(try dsimp only);omega)]<;>first|rfl|simp only[ByteArray.append_assoc])),Rf rfl,⟨rfl,rfl⟩,⟨rfl,rfl⟩,⟨rfl,rfl⟩,⟨rfl,rfl⟩,⟨rfl,rfl⟩,⟨rfl,rfl⟩,⟨rfl,rfl⟩,Rf rfl,Rf rfl,Rf rfl,Rf rfl,Rf rfl,Rf rfl,Rf rfl,rfl,trivial⟩ rfl rfl) ?_;intro m;have hlem:=m.le;have hq2:=iz hF (k:=m.k) (by omega);have hx2:=s6 u m.k;have hy2_0:=aA (u.ao.getD m.k En.ab).Id;have hy2_1:=aA (u.ao.getD m.k En.ab).Kind;have hy2_2:=aA (u.ao.getD m.k En.ab).Target;have hy2_3:=aA (u.ao.getD m.k En.ab).j3;have hy2_4:=aA (u.ao.getD m.k En.ab).fc;refine go [.R2,.m,.N,.f,.l,.h,.N,.b,.Z] ?_;refine cd (λc3=>?_) λc3=>?_
 ·try simp only[ah]at c3
  refine jd (AW.seq (AW.block (sr ?_)));refine go [.f,.l,.N,.m,.i,.G,.N,.A,.N,.s,.Z,.D [0,1,2,4,5,6,8,9,10,12,13,14,16,17,18,20],.t 0,.m,.N,.t 1,.f,.t 2,.l,.t 5,.f,.N,.t 6,.l,.t 9,.f,.t 10,.l,.N,.t 13,.f,.t 14,.l,.t 17,.f,.N,.t 18,.l] ?_;refine a1 3 [0,5,6,9,10,13,14,17,18] [2,1] rfl rfl (aE.aC rfl (by decide) call208 rfl rfl (bA _)) ?_;refine go [.N,.g,.m,.g,.f,.g,.l,.g,.f,.g,.l,.g,.f,.g,.l,.g,.f,.g,.l,.N] ?_;refine tk 4 rfl (Qt.binOp rfl rfl c_) ?_;refine a1 7 [0,4,9,10,13,14,17,18] [6,3,5,2,1] rfl rfl (aE.aC rfl (by decide) call208 rfl rfl (bA _)) ?_;refine go [.N,.g,.m] ?_;refine ae rfl (Qt.binOp rfl rfl c_) ?_;refine go [.g,.f,.g,.l,.g,.f,.g,.l,.g,.f,.g,.l,.N] ?_;refine tk 8 rfl (Qt.binOp rfl rfl c_) ?_;refine a1 11 [0,4,8,13,14,17,18] [10,7,9,6,3,5,2,1] rfl rfl (aE.aC rfl (by decide) call208 rfl rfl (bA _)) ?_;refine go [.N,.g,.m] ?_;refine ae rfl (Qt.binOp rfl rfl c_) ?_;refine ae rfl (Qt.binOp rfl rfl c_) ?_;refine go [.g,.f,.g,.l,.g,.f,.g,.l,.N] ?_;refine tk 12 rfl (Qt.binOp rfl rfl c_) ?_;refine a1 15 [0,4,8,12,17,18] [14,11,13,10,7,9,6,3,5,2,1] rfl rfl (aE.aC rfl (by decide) call208 rfl rfl (bA _)) ?_;refine go [.N,.g,.m] ?_;refine ae rfl (Qt.binOp rfl rfl c_) ?_;refine ae rfl (Qt.binOp rfl rfl c_) ?_;refine ae rfl (Qt.binOp rfl rfl c_) ?_;refine go [.g,.f,.g,.l,.N] ?_;refine tk 16 rfl (Qt.binOp rfl rfl c_) ?_;refine a1 19 [0,4,8,12,16] [18,15,17,14,11,13,10,7,9,6,3,5,2,1] rfl rfl (aE.aC rfl (by decide) call208 rfl rfl (bA _)) ?_;refine go [.N,.g,.m] ?_;refine ae rfl (Qt.binOp rfl rfl c_) ?_;refine ae rfl (Qt.binOp rfl rfl c_) ?_;refine ae rfl (Qt.binOp rfl rfl c_) ?_;refine ae rfl (Qt.binOp rfl rfl c_) ?_;refine go [.N] ?_;refine tk 20 rfl (Qt.binOp rfl rfl c_) ?_;refine a1 21 [] [20,19,18,17,16,15,14,13,12,11,10,9,8,7,6,5,4,3,2,1,0] rfl rfl (aE.q rfl (by decide) Qt.assign) ?_;refine go [.N,.Z,.R1,.m,.b,.a,.Z] ?_;refine⟨⟨m.k+1,by omega⟩,ar.bb ⟨ew,(by simp only[ax,reduceIte,Nat.reduceEqDiff];congr 2<;>(rw[hx2]<;>first|rfl|simp only[oZ,ByteArray.append_assoc])),Rf rfl,⟨rfl,rfl⟩,⟨rfl,rfl⟩,⟨rfl,rfl⟩,⟨rfl,rfl⟩,⟨rfl,rfl⟩,⟨rfl,rfl⟩,⟨rfl,rfl⟩,Rf rfl,Rf rfl,Rf rfl,Rf rfl,Rf rfl,Rf rfl,Rf rfl,rfl,trivial⟩ rfl rfl,?_⟩;dsimp only;omega
 try simp only[ah]at c3
 refine AW.exit ?_;dsimp only[aD,au,reduceIte];refine go [.R,.m,.N,.f,.l,.h,.N] ?_;refine cv call208 rfl rfl (bA _) ?_;refine go [.N] ?_;refine qq (Qt.binOp rfl rfl c_) ?_;refine go [.a,.Z,.R2,.a,.Z] ?_;refine AW.block ?_;refine AW.aL (λn:cV u.ak.length=>[.sl 8 (.v (iv n.k)),.sl 3 (.v (.string (s3 u n.k))),.rt 1 .box (T.s 9 1 λk c=>([(T.v (iv u.Next),none),(T.v (iv u.bp),none),(T.j,none),(T.j,none),(T.j,none),(T.j,none),(T.j,none),(T.j,none),(T.j,none)].getD (k*9+c) (T.j,none)).fst),.al 1 2 (.h aa []),.al 1 3 (.h (aa+1) []),.al 1 4 (.h (aa+2) []),.al 1 5 (.h (aa+3) []),.al 1 6 (.h (aa+4) []),.al 1 7 (.h (aa+5) []),.al 1 8 (.h (aa+6) []),.rt aa .ro (tr u.aP),.rt (aa+1) .ro (tr u.ag),.rt (aa+2) .ro (tr u.ao),.rt (aa+3) .ro (tr u.ak),.rt (aa+4) .ro (tr u.ay),.rt (aa+5) .ro (tr u.aN),.rt (aa+6) .ro (tr u.Out),.sl 1 (.p 1 [] 9 0 0)]) (λn=>u.ak.length-n.k) ⟨0,zero_le _⟩ (ar.bb ⟨rfl,(by simp only[ax,reduceIte,Nat.reduceEqDiff];congr 2<;>(rw[uW,show tG u m.k=tG u u.ao.length from congrArg (tG u) (show m.k=u.ao.length by(try dsimp only);omega)]<;>first|rfl|simp only[ByteArray.append_assoc])),Rf rfl,⟨rfl,rfl⟩,⟨rfl,rfl⟩,⟨rfl,rfl⟩,⟨rfl,rfl⟩,⟨rfl,rfl⟩,⟨rfl,rfl⟩,⟨rfl,rfl⟩,Rf rfl,Rf rfl,Rf rfl,Rf rfl,Rf rfl,Rf rfl,Rf rfl,rfl,trivial⟩ rfl rfl) ?_;intro n;have hlen:=n.le;have hq3:=iy hF (k:=n.k) (by omega);have hx3:=vg u n.k;have hy3_0:=aA (u.ak.getD n.k En.ab).Id;have hz3:=cl (u.ak.getD n.k En.ab).Data;refine go [.R2,.m,.N,.f,.l,.h,.N,.b,.Z] ?_;refine cd (λc4=>?_) λc4=>?_
 ·try simp only[ah]at c4
  have hpi:=hF.pipe n.k (by omega);refine jd (AW.seq (AW.block ?_));refine go [.D [0,1,2,3,4,5,6,8,9,10,11,12,13,14,16],.t 0,.m,.t 1,.f,.N,.t 2,.l,.t 3,.m,.t 4,.i,.N,.t 5,.f,.t 6,.l,.t 9,.f,.N,.t 10,.l,.t 11,.m,.t 12,.i,.N,.t 13,.f,.t 14,.l] ?_;refine a1 7 [0,9,10,11,12,13,14] [6,5,4,3,2,1] rfl rfl (aE.aC rfl (by decide) call208 rfl rfl (bA _)) ?_;refine go [.N,.g,.m,.g,.f,.g,.l,.g,.m,.g,.i,.g,.f,.g,.l,.N] ?_;refine tk 8 rfl (Qt.binOp rfl rfl c_) ?_;refine a1 15 [0,8] [14,7,13,6,12,5,11,10,4,9,3,2,1] rfl rfl (aE.aC rfl (by decide) call211 rfl rfl (dO _ (by first|exact hF.oV|exact hpi.2) (by first|omega|(have:=hpi.1;omega)))) ?_;refine go [.N,.g,.m] ?_;refine ae rfl (Qt.binOp rfl rfl c_) ?_;refine go [.N] ?_;refine tk 16 rfl (Qt.binOp rfl rfl c_) ?_;refine a1 17 [] [16,15,14,13,12,11,10,9,8,7,6,5,4,3,2,1,0] rfl rfl (aE.q rfl (by decide) Qt.assign) ?_;refine go [.N,.Z,.R1,.m,.b,.a,.Z] ?_;refine⟨⟨n.k+1,by omega⟩,ar.bb ⟨ew,(by simp only[ax,reduceIte,Nat.reduceEqDiff];congr 2<;>(rw[hx3]<;>first|rfl|simp only[qB,ByteArray.append_assoc])),Rf rfl,⟨rfl,rfl⟩,⟨rfl,rfl⟩,⟨rfl,rfl⟩,⟨rfl,rfl⟩,⟨rfl,rfl⟩,⟨rfl,rfl⟩,⟨rfl,rfl⟩,Rf rfl,Rf rfl,Rf rfl,Rf rfl,Rf rfl,Rf rfl,Rf rfl,rfl,trivial⟩ rfl rfl,?_⟩;dsimp only;omega
 try simp only[ah]at c4
 refine AW.exit ?_;dsimp only[aD,au,reduceIte];refine go [.R,.m,.N,.f,.l,.h,.N] ?_;refine cv call208 rfl rfl (bA _) ?_;refine go [.N] ?_;refine qq (Qt.binOp rfl rfl c_) ?_;refine go [.a,.Z,.R2,.a,.Z] ?_;refine AW.block ?_;refine AW.aL (λo:cV u.ay.length=>[.sl 9 (.v (iv o.k)),.sl 3 (.v (.string (sE u o.k))),.rt 1 .box (T.s 9 1 λk c=>([(T.v (iv u.Next),none),(T.v (iv u.bp),none),(T.j,none),(T.j,none),(T.j,none),(T.j,none),(T.j,none),(T.j,none),(T.j,none)].getD (k*9+c) (T.j,none)).fst),.al 1 2 (.h aa []),.al 1 3 (.h (aa+1) []),.al 1 4 (.h (aa+2) []),.al 1 5 (.h (aa+3) []),.al 1 6 (.h (aa+4) []),.al 1 7 (.h (aa+5) []),.al 1 8 (.h (aa+6) []),.rt aa .ro (tr u.aP),.rt (aa+1) .ro (tr u.ag),.rt (aa+2) .ro (tr u.ao),.rt (aa+3) .ro (tr u.ak),.rt (aa+4) .ro (tr u.ay),.rt (aa+5) .ro (tr u.aN),.rt (aa+6) .ro (tr u.Out),.sl 1 (.p 1 [] 9 0 0)]) (λo=>u.ay.length-o.k) ⟨0,zero_le _⟩ (ar.bb ⟨rfl,(by simp only[ax,reduceIte,Nat.reduceEqDiff];congr 2<;>(rw[tD,show s3 u n.k=s3 u u.ak.length from congrArg (s3 u) (show n.k=u.ak.length by(try dsimp only);omega)]<;>first|rfl|simp only[ByteArray.append_assoc])),Rf rfl,⟨rfl,rfl⟩,⟨rfl,rfl⟩,⟨rfl,rfl⟩,⟨rfl,rfl⟩,⟨rfl,rfl⟩,⟨rfl,rfl⟩,⟨rfl,rfl⟩,Rf rfl,Rf rfl,Rf rfl,Rf rfl,Rf rfl,Rf rfl,Rf rfl,rfl,trivial⟩ rfl rfl) ?_;intro o;have hleo:=o.le;have hq4:=im hF (k:=o.k) (by omega);have hx4:=uP u o.k;have hy4_0:=aA (u.ay.getD o.k En.ab).Name;have hz4:=cl (u.ay.getD o.k En.ab).Data;refine go [.R2,.m,.N,.f,.l,.h,.N,.b,.Z] ?_;refine cd (λc5=>?_) λc5=>?_
 ·try simp only[ah]at c5
  have hpi:=hF.file o.k (by omega);refine jd (AW.seq (AW.block ?_));refine go [.D [0,1,2,3,4,5,6,8,9,10,11,12,13,14,16],.t 0,.m,.t 1,.f,.N,.t 2,.l,.t 3,.m,.t 4,.i,.N,.t 5,.f,.t 6,.l,.t 9,.f,.N,.t 10,.l,.t 11,.m,.t 12,.i,.N,.t 13,.f,.t 14,.l] ?_;refine a1 7 [0,9,10,11,12,13,14] [6,5,4,3,2,1] rfl rfl (aE.aC rfl (by decide) call208 rfl rfl (bA _)) ?_;refine go [.N,.g,.m,.g,.f,.g,.l,.g,.m,.g,.i,.g,.f,.g,.l,.N] ?_;refine tk 8 rfl (Qt.binOp rfl rfl c_) ?_;refine a1 15 [0,8] [14,7,13,6,12,5,11,10,4,9,3,2,1] rfl rfl (aE.aC rfl (by decide) call211 rfl rfl (dO _ (by first|exact hF.oV|exact hpi.2) (by first|omega|(have:=hpi.1;omega)))) ?_;refine go [.N,.g,.m] ?_;refine ae rfl (Qt.binOp rfl rfl c_) ?_;refine go [.N] ?_;refine tk 16 rfl (Qt.binOp rfl rfl c_) ?_;refine a1 17 [] [16,15,14,13,12,11,10,9,8,7,6,5,4,3,2,1,0] rfl rfl (aE.q rfl (by decide) Qt.assign) ?_;refine go [.N,.Z,.R1,.m,.b,.a,.Z] ?_;refine⟨⟨o.k+1,by omega⟩,ar.bb ⟨ew,(by simp only[ax,reduceIte,Nat.reduceEqDiff];congr 2<;>(rw[hx4]<;>first|rfl|simp only[qV,ByteArray.append_assoc])),Rf rfl,⟨rfl,rfl⟩,⟨rfl,rfl⟩,⟨rfl,rfl⟩,⟨rfl,rfl⟩,⟨rfl,rfl⟩,⟨rfl,rfl⟩,⟨rfl,rfl⟩,Rf rfl,Rf rfl,Rf rfl,Rf rfl,Rf rfl,Rf rfl,Rf rfl,rfl,trivial⟩ rfl rfl,?_⟩;dsimp only;omega
 try simp only[ah]at c5
 refine AW.exit ?_;dsimp only[aD,au,reduceIte];refine go [.R,.m,.N,.f,.l,.h,.N] ?_;refine cv call208 rfl rfl (bA _) ?_;refine go [.N] ?_;refine qq (Qt.binOp rfl rfl c_) ?_;refine go [.a,.Z,.R2,.a,.Z] ?_;refine AW.block ?_;refine AW.aL (λq:cV u.aN.length=>[.sl 10 (.v (iv q.k)),.sl 3 (.v (.string (yk u q.k))),.rt 1 .box (T.s 9 1 λk c=>([(T.v (iv u.Next),none),(T.v (iv u.bp),none),(T.j,none),(T.j,none),(T.j,none),(T.j,none),(T.j,none),(T.j,none),(T.j,none)].getD (k*9+c) (T.j,none)).fst),.al 1 2 (.h aa []),.al 1 3 (.h (aa+1) []),.al 1 4 (.h (aa+2) []),.al 1 5 (.h (aa+3) []),.al 1 6 (.h (aa+4) []),.al 1 7 (.h (aa+5) []),.al 1 8 (.h (aa+6) []),.rt aa .ro (tr u.aP),.rt (aa+1) .ro (tr u.ag),.rt (aa+2) .ro (tr u.ao),.rt (aa+3) .ro (tr u.ak),.rt (aa+4) .ro (tr u.ay),.rt (aa+5) .ro (tr u.aN),.rt (aa+6) .ro (tr u.Out),.sl 1 (.p 1 [] 9 0 0)]) (λq=>u.aN.length-q.k) ⟨0,zero_le _⟩ (ar.bb ⟨rfl,(by simp only[ax,reduceIte,Nat.reduceEqDiff];congr 2<;>(rw[z6,show sE u o.k=sE u u.ay.length from congrArg (sE u) (show o.k=u.ay.length by(try dsimp only);omega)]<;>first|rfl|simp only[ByteArray.append_assoc])),Rf rfl,⟨rfl,rfl⟩,⟨rfl,rfl⟩,⟨rfl,rfl⟩,⟨rfl,rfl⟩,⟨rfl,rfl⟩,⟨rfl,rfl⟩,⟨rfl,rfl⟩,Rf rfl,Rf rfl,Rf rfl,Rf rfl,Rf rfl,Rf rfl,Rf rfl,rfl,trivial⟩ rfl rfl) ?_;intro q;have hleq:=q.le;have hq5:=jH hF (k:=q.k) (by omega);have hx5:=zS u q.k;have hy5:=aA (u.aN.getD q.k En.ab);refine go [.R2,.m,.N,.f,.l,.h,.N,.b,.Z] ?_;refine cd (λc6=>?_) λc6=>?_
 ·try simp only[ah]at c6
  refine jd (AW.seq (AW.block (AW.region ?_)));refine go [.m,.f,.N,.l,.m,.i,.N,.l] ?_;refine cv call208 rfl rfl (bA _) ?_;refine go [.N] ?_;refine qq (Qt.binOp rfl rfl c_) ?_;refine go [.a,.Z,.R1,.m,.N,.b,.a,.Z] ?_;refine⟨⟨q.k+1,by omega⟩,ar.bb ⟨ew,(by simp only[ax,reduceIte,Nat.reduceEqDiff];congr 2<;>(rw[hx5]<;>first|rfl|simp only[bt,ByteArray.append_assoc])),Rf rfl,⟨rfl,rfl⟩,⟨rfl,rfl⟩,⟨rfl,rfl⟩,⟨rfl,rfl⟩,⟨rfl,rfl⟩,⟨rfl,rfl⟩,⟨rfl,rfl⟩,Rf rfl,Rf rfl,Rf rfl,Rf rfl,Rf rfl,Rf rfl,Rf rfl,rfl,trivial⟩ rfl rfl,?_⟩;dsimp only;omega
 try simp only[ah]at c6
 refine AW.exit ?_;dsimp only[aD,au,reduceIte];refine go [.R,.m,.N,.f,.l] ?_;refine cv call211 rfl rfl (dO _ (by first|exact hF.oV|exact hpi.2) (by first|omega|(have:=hpi.1;omega))) ?_;refine go [.N] ?_;refine qq (Qt.binOp rfl rfl c_) ?_;refine go [.a,.Z] ?_;refine aQ 2 ?_;rw[show dn u=yk u q.k++cm u.Out from by rw[dn,show q.k=u.aN.length by omega]];rfl
open Go Go.RowKit Go.Proofs Go.Proofs.Tryz
open Go.Shelf
def ni:Go.Shelf.Ren:=⟨λ |156=>217|165=>241|166=>242|169=>243|240=>260|241=>261|276=>268|277=>269|n=>n,λ |31=>218|9=>9|3=>3|4=>4|0=>0|20=>20|72=>233|76=>237|70=>231|37=>216|75=>236|127=>253|164=>260|5=>5|80=>239|n=>n,λ |n=>n⟩
theorem wQ:Go.Proofs.Lays.n156 prog ni:={
 mixed:=by kernel_rfl
 f156:=func217.trans (congrArg some (by kernel_rfl))
 f165:=func241.trans (congrArg some (by kernel_rfl))
 f166:=func242.trans (congrArg some (by kernel_rfl))
 f169:=func243.trans (congrArg some (by kernel_rfl))
 f240:=func260.trans (congrArg some (by kernel_rfl))
 f241:=func261.trans (congrArg some (by kernel_rfl))
 f276:=func268.trans (congrArg some (by kernel_rfl))
 f277:=func269.trans (congrArg some (by kernel_rfl))
 t0:=underlying0
 a0:=isAgg0
 z0:=sizeOf0
 v0:=zeroValue0
 t3:=underlying3
 a3:=isAgg3
 z3:=sizeOf3
 v3:=zeroValue3
 t4:=underlying4
 a4:=isAgg4
 z4:=sizeOf4
 v4:=zeroValue4
 t9:=underlying9
 a9:=isAgg9
 z9:=sizeOf9
 v9:=zeroValue9
 t20:=underlying20
 a20:=isAgg20
 z20:=sizeOf20
 v20:=zeroValue20
 t31:=underlying218
 a31:=isAgg218
 z31:=sizeOf218
 v31:=zeroValue218
 t37:=underlying216
 a37:=isAgg216
 z37:=sizeOf216
 v37:=zeroValue216
 t70:=underlying231
 a70:=isAgg231
 z70:=sizeOf231
 v70:=zeroValue231
 t72:=underlying233
 a72:=isAgg233
 z72:=sizeOf233
 v72:=zeroValue233
 t75:=underlying236
 a75:=isAgg236
 z75:=sizeOf236
 v75:=zeroValue236
 t76:=underlying237
 a76:=isAgg237
 z76:=sizeOf237
 v76:=zeroValue237
 t127:=underlying253
 a127:=isAgg253
 z127:=sizeOf253
 v127:=zeroValue253
 t164:=underlying260
 a164:=isAgg260
 z164:=sizeOf260
 v164:=zeroValue260 }
theorem iV:Builder.Extra prog ni:={
 sizeBuilder:=by kernel_rfl
 liesBuilder:=by kernel_rfl
 t5:=underlying5
 a5:=isAgg5
 z5:=sizeOf5
 v5:=zeroValue5
 infoByte:=by kernel_rfl
 cellsByte:=by kernel_rfl
 sizeByte:=by kernel_rfl
 neB5:=by decide }
theorem yY(l:List ByteArray)(hN:l.length≤140737488355328)(hs:(gH l).size≤140737488355328):a_ prog 217 [.h aa [],.v (.string ByteArray.empty)] [.rt aa .ro (tr l)] (λy _=>y= .v (.string (gH l))):=
 yX (λbk o c xs w h1 h2 h3 h4 h5=>Any.strings_Join wQ iV bk o c xs ByteArray.empty w h1 h2 h3 h4 h5) (λa c w=>Any.strings_Join_none wQ iV a c ByteArray.empty w) l hN hs
end Go.Proofs.YtekcnnngjoonbaaGreat.VM
