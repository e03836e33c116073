/- Contracts. No conditions. -/
import Derived.Test.YtekcnnngjoonbaaGreatWg
import Derived.Test.YtekcnnngjoonbaaGreatWh
set_option linter.all false
set_option maxHeartbeats 8000000
set_option maxRecDepth 10000
namespace Go.Proofs.YtekcnnngjoonbaaGreat.VM
open List Nat
open Go Go.RowKit Go.Proofs Go.Proofs.Tryz

def si(n:Int):Int:=if n<0 then -2*n-1 else 2*n
def ny(i:cU):Int:=if i.Op=1 then si i.B else i.B
def gz(s:ByteArray)(i:cU):ByteArray:=(((s++bt i.Op)++bt i.A)++bt (ny i))++bt i.C
def gJ(l:List cU)(k:Nat):ByteArray:=(l.take k).foldl gz (bt l.length)
def nr(l:List cU):ByteArray:=if et l then gJ l l.length else ByteArray.empty
theorem lD(l:List cU){k:Nat}(hk:k<l.length):gJ l (k+1)=gz (gJ l k) (l.getD k En.ab):=by
 unfold gJ;rw[take_add_one,getElem?_eq_getElem hk,foldl_append];simp[hk]
theorem pX(s:ByteArray)(i:cU):(gz s i).size≤s.size+28:=by
 have h1:=aA i.Op;have h2:=aA i.A;have h3:=aA (ny i);have h4:=aA i.C;simp only[gz,ByteArray.size_append];omega
theorem jT(l:List cU):∀{k:Nat},k≤l.length→(gJ l k).size≤7+28*k
 | 0,_=>by simpa [gJ]using aA l.length
 | k+1,h=>by
  have h1:=jT l (k:=k) (by omega);have h2:=pX (gJ l k) (l.getD k En.ab);rw[lD l (by omega)];omega
theorem xp{i:cU}(h:ec i=true)(h1:i.Op=1): -1000000≤i.B∧i.B≤1000000:=by
 unfold ec at h;rw[if_pos h1]at h;simp[ek]at h;omega
theorem kM{l:List cU}(h:et l=true):l.length≤40∧∀k,k<l.length→ec (l.getD k En.ab)=true:=by
 simp only[et,Bool.and_eq_true,decide_eq_true_eq]at h;refine⟨h.1,λk hk=>?_⟩;have:=List.all_eq_true.1 h.2 l[k] (getElem_mem hk);simpa [hk]using this

theorem qp(n:Int)(h1: -1000000≤n)(h2:n≤1000000):a_ prog 238 [.v (iv n)] [] (λy _=>y= .v (iv (si n))):=by
 refine ob func238 ntmps238 ?_;refine go [.R,.a,.Z,.R2,.m,.b,.Z] ?_;refine cd (λc1=>?_) λc1=>?_
 ·try simp only[ah]at c1
  refine go [.R,.m,.N] ?_;refine qq (Qt.binOp rfl rfl (by first|exact dM (by omega)|rfl)) ?_;refine go [.b,.a,.Z] ?_;refine aQ 2 ?_;rw[show si n= -2*n-1 from if_pos (by omega)];rfl
 try simp only[ah]at c1
 refine go [.J,.R,.m,.N] ?_;refine qq (Qt.binOp rfl rfl (by first|exact dM (by omega)|rfl)) ?_;refine go [.a,.Z] ?_;refine aQ 2 ?_;rw[show si n=2*n from if_neg (by omega)];rfl
theorem np(n:Int)(h1: -1000000≤n)(h2:n≤1000000):a_ prog 240 [.v (iv n)] [] (λy _=>y= .v (.string (bt (si n)))):=by
 refine ob func240 ntmps240 ?_;refine go [.R,.a,.Z,.R2,.m,.b,.Z] ?_;refine cd (λc1=>?_) λc1=>?_
 ·try simp only[ah]at c1
  refine go [.R,.m,.N] ?_;refine qq (Qt.binOp rfl rfl (by first|exact dM (by omega)|rfl)) ?_;refine go [.b] ?_;refine cv call214 rfl rfl (cR _) ?_;refine go [.N,.a,.Z] ?_;refine aQ 2 ?_;rw[show si n= -2*n-1 from if_pos (by omega)];rfl
 try simp only[ah]at c1
 refine go [.J,.R,.m] ?_;refine qq (Qt.binOp rfl rfl (by first|exact dM (by omega)|rfl)) ?_;refine go [.N] ?_;refine cv call214 rfl rfl (cR _) ?_;refine go [.N,.a,.Z] ?_;refine aQ 2 ?_;rw[show si n=2*n from if_neg (by omega)];rfl
theorem vT(l:List cU)(h40:l.length≤40)(hI:∀k,k<l.length→ec (l.getD k En.ab)=true):a_ prog 209 [.h aa []] [.rt aa .ro (tr l)] (λy _=>y= .v (.string (gJ l l.length))):=by
 refine ob func209 ntmps209 ?_;refine go [.R,.a,.Z,.R,.m,.h,.N] ?_;refine cv call208 rfl rfl (bA _) ?_;refine go [.N,.a,.Z,.R2,.a,.Z] ?_;refine AW.block ?_;refine AW.aL (λi:cV l.length=>[.sl 4 (.v (iv i.k)),.sl 3 (.v (.string (gJ l i.k))),.sl 0 (.h aa []),.rt aa .ro (tr l)]) (λi=>l.length-i.k) ⟨0,zero_le _⟩ (ws) ?_;intro i;have hle:=i.le;refine go [.R2,.m,.N,.m,.h,.b,.Z] ?_;refine cd (λc1=>?_) λc1=>?_
 ·try simp only[ah]at c1
  have hq:=jT l (k:=i.k) (by omega);have hi:=hI i.k (by omega);have hv1:=aA (l.getD i.k En.ab).Op;have hv2:=aA (l.getD i.k En.ab).A;have hv3:=aA (ny (l.getD i.k En.ab));have hv4:=aA (l.getD i.k En.ab).C;have hv5:=aA (l.getD i.k En.ab).B;have hv6:=aA (si (l.getD i.k En.ab).B);have hw:=xp hi;have hnx:=lD l (k:=i.k) (by omega);refine jd (AW.seq (AW.block (sr ?_)));refine go [.m,.N,.m,.i,.f,.N,.l,.a,.Z,.R2,.m,.N,.m,.i,.f,.N,.l,.b,.Z] ?_;refine cd (λc2=>?_) λc2=>?_
  ·try simp only[ah]at c2
   refine go [.R1,.m,.N] ?_;refine cv call238 rfl rfl (qp _ (by omega) (by omega)) ?_;refine go [.N,.a,.Z,.D [0,1,2,3,4,5,7,8,9,10,11,12,14,15,17,18,19,20,21,22,24],.t 0,.m,.t 1,.m,.N,.t 2,.m,.t 3,.i,.t 4,.f,.N,.t 5,.l,.t 8,.m,.t 9,.m,.N,.t 10,.i,.t 11,.f,.t 12,.l,.N,.t 15,.m,.t 18,.m,.t 19,.m,.N,.t 20,.i,.t 21,.f,.t 22,.l,.N] ?_;refine a1 6 [0,8,9,10,11,12,15,18,19,20,21,22] [5,4,3,2,1] rfl rfl (aE.aC rfl (by decide) call208 rfl rfl (bA _)) ?_;refine go [.N,.g,.m,.g,.m,.g,.m,.g,.i,.g,.f,.g,.l,.g,.m,.g,.m,.g,.m,.g,.i,.g,.f,.g,.l,.N] ?_;refine tk 7 rfl (Qt.binOp rfl rfl c_) ?_;refine a1 13 [0,7,15,18,19,20,21,22] [12,6,11,5,10,4,9,8,3,2,1] rfl rfl (aE.aC rfl (by decide) call208 rfl rfl (bA _)) ?_;refine go [.N,.g,.m] ?_;refine ae rfl (Qt.binOp rfl rfl c_) ?_;refine go [.g,.m,.g,.m,.g,.m,.g,.i,.g,.f,.g,.l,.N] ?_;refine tk 14 rfl (Qt.binOp rfl rfl c_) ?_;refine a1 16 [0,7,14,18,19,20,21,22] [15,13,12,6,11,5,10,4,9,8,3,2,1] rfl rfl (aE.aC rfl (by decide) call208 rfl rfl (bA _)) ?_;refine go [.N,.g,.m] ?_;refine ae rfl (Qt.binOp rfl rfl c_) ?_;refine ae rfl (Qt.binOp rfl rfl c_) ?_;refine go [.g,.m,.g,.m,.g,.i,.g,.f,.g,.l,.N] ?_;refine tk 17 rfl (Qt.binOp rfl rfl c_) ?_;refine a1 23 [0,7,14,17] [22,16,21,15,13,20,12,6,19,18,11,5,10,4,9,8,3,2,1] rfl rfl (aE.aC rfl (by decide) call208 rfl rfl (bA _)) ?_;refine go [.N,.g,.m] ?_;refine ae rfl (Qt.binOp rfl rfl c_) ?_;refine ae rfl (Qt.binOp rfl rfl c_) ?_;refine ae rfl (Qt.binOp rfl rfl c_) ?_;refine go [.N] ?_;refine tk 24 rfl (Qt.binOp rfl rfl c_) ?_;refine a1 25 [] [24,23,22,21,20,19,18,17,16,15,14,13,12,11,10,9,8,7,6,5,4,3,2,1,0] rfl rfl (aE.q rfl (by decide) Qt.assign) ?_;refine go [.N,.Z,.R1,.m,.b,.a,.Z] ?_;refine⟨⟨i.k+1,by omega⟩,ar.bb ⟨ew,(by rw[hnx];simp only[ax,reduceIte,Nat.reduceEqDiff,gz,ny];first|rw[if_pos (by omega)]|rw[if_neg (by omega)]),rfl,Rf rfl,trivial⟩ rfl rfl,?_⟩;dsimp only;omega
  try simp only[ah]at c2
  refine go [.J,.D [0,1,2,3,4,5,7,8,9,10,11,12,14,15,17,18,19,20,21,22,24],.t 0,.m,.N,.t 1,.m,.t 2,.m,.t 3,.i,.N,.t 4,.f,.t 5,.l,.t 8,.m,.N,.t 9,.m,.t 10,.i,.t 11,.f,.N,.t 12,.l,.t 15,.m,.t 18,.m,.N,.t 19,.m,.t 20,.i,.t 21,.f,.N,.t 22,.l] ?_;refine a1 6 [0,8,9,10,11,12,15,18,19,20,21,22] [5,4,3,2,1] rfl rfl (aE.aC rfl (by decide) call208 rfl rfl (bA _)) ?_;refine go [.N,.g,.m,.g,.m,.g,.m,.g,.i,.g,.f,.g,.l,.g,.m,.g,.m,.g,.m,.g,.i,.g,.f,.g,.l,.N] ?_;refine tk 7 rfl (Qt.binOp rfl rfl c_) ?_;refine a1 13 [0,7,15,18,19,20,21,22] [12,6,11,5,10,4,9,8,3,2,1] rfl rfl (aE.aC rfl (by decide) call208 rfl rfl (bA _)) ?_;refine go [.N,.g,.m] ?_;refine ae rfl (Qt.binOp rfl rfl c_) ?_;refine go [.g,.m,.g,.m,.g,.m,.g,.i,.g,.f,.g,.l,.N] ?_;refine tk 14 rfl (Qt.binOp rfl rfl c_) ?_;refine a1 16 [0,7,14,18,19,20,21,22] [15,13,12,6,11,5,10,4,9,8,3,2,1] rfl rfl (aE.aC rfl (by decide) call208 rfl rfl (bA _)) ?_;refine go [.N,.g,.m] ?_;refine ae rfl (Qt.binOp rfl rfl c_) ?_;refine ae rfl (Qt.binOp rfl rfl c_) ?_;refine go [.g,.m,.g,.m,.g,.i,.g,.f,.g,.l,.N] ?_;refine tk 17 rfl (Qt.binOp rfl rfl c_) ?_;refine a1 23 [0,7,14,17] [22,16,21,15,13,20,12,6,19,18,11,5,10,4,9,8,3,2,1] rfl rfl (aE.aC rfl (by decide) call208 rfl rfl (bA _)) ?_;refine go [.N,.g,.m] ?_;refine ae rfl (Qt.binOp rfl rfl c_) ?_;refine ae rfl (Qt.binOp rfl rfl c_) ?_;refine ae rfl (Qt.binOp rfl rfl c_) ?_;refine go [.N] ?_;refine tk 24 rfl (Qt.binOp rfl rfl c_) ?_;refine a1 25 [] [24,23,22,21,20,19,18,17,16,15,14,13,12,11,10,9,8,7,6,5,4,3,2,1,0] rfl rfl (aE.q rfl (by decide) Qt.assign) ?_;refine go [.N,.Z,.R1,.m,.b,.a,.Z] ?_;refine⟨⟨i.k+1,by omega⟩,ar.bb ⟨ew,(by rw[hnx];simp only[ax,reduceIte,Nat.reduceEqDiff,gz,ny];first|rw[if_pos (by omega)]|rw[if_neg (by omega)]),rfl,Rf rfl,trivial⟩ rfl rfl,?_⟩;dsimp only;omega
 try simp only[ah]at c1
 refine AW.exit ?_;dsimp only[aD,au,reduceIte];refine go [.R,.m,.N,.a,.Z] ?_;refine aQ 2 ?_;rw[show gJ l l.length=gJ l i.k from by rw[show i.k=l.length by omega]];rfl
theorem pK(l:List cU):a_ prog 213 [.h aa []] [.rt aa .ro (tr l)] (λy _=>y= .v (.string (nr l))):=by
 refine ob func213 ntmps213 ?_;refine go [.R,.a,.Z,.R2,.m] ?_;refine cv call148 rfl rfl (nd _) ?_;refine go [.N,.n,.Z] ?_;refine cd (λc1=>?_) λc1=>?_
 ·try simp only[ah]at c1
  refine go [.R,.a,.Z] ?_;refine aQ 2 ?_;rw[show nr l=ByteArray.empty from if_neg (by simp[c1])];rfl
 try simp only[ah]at c1
 obtain⟨h40,hI⟩:=kM c1;have hpr:=c1;refine go [.J,.R,.m,.N,.h] ?_;refine cv call214 rfl rfl (cR _) ?_;refine go [.N,.a,.Z,.R2,.m,.h,.N,.m,.Z] ?_;refine AW.block ?_;refine AW.aL (λi:cV l.length=>[.sl 14 (.v (iv i.k)),.sl 12 (.h aa []),.sl 13 (.v (iv l.length)),.sl 3 (.v (.string (gJ l i.k))),.sl 0 (.h aa []),.rt aa .ro (tr l)]) (λi=>l.length-i.k) ⟨0,zero_le _⟩ (ws) ?_;intro i;have hle:=i.le;refine go [.R,.b,.Z] ?_;refine AW.seq ?_;refine cd (λc2=>?_) λc2=>?_
 ·try simp only[ah]at c2
  have hq:=jT l (k:=i.k) (by omega);have hi:=hI i.k (by omega);have hv1:=aA (l.getD i.k En.ab).Op;have hv2:=aA (l.getD i.k En.ab).A;have hv3:=aA (ny (l.getD i.k En.ab));have hv4:=aA (l.getD i.k En.ab).C;have hv5:=aA (l.getD i.k En.ab).B;have hv6:=aA (si (l.getD i.k En.ab).B);have hw:=xp hi;have hnx:=lD l (k:=i.k) (by omega);refine jd (AW.seq (AW.block (sr ?_)));refine go [.i,.N,.G,.A,.N,.s,.Z] ?_;refine AW.seq ?_;refine go [.D [0,1,2,4,5,7,8],.t 0,.m,.N,.t 1,.f,.t 2,.l,.t 4,.f,.N,.t 5,.l] ?_;refine a1 3 [0,4,5] [2,1] rfl rfl (aE.aC rfl (by decide) call214 rfl rfl (cR _)) ?_;refine go [.N,.g,.m,.g,.f,.g,.l,.N] ?_;refine a1 6 [0] [5,3,4,2,1] rfl rfl (aE.aC rfl (by decide) call214 rfl rfl (cR _)) ?_;refine go [.N,.g,.m,.N] ?_;refine tk 7 rfl (Qt.binOp rfl rfl c_) ?_;refine tk 8 rfl (Qt.binOp rfl rfl c_) ?_;refine a1 9 [] [8,7,6,5,4,3,2,1,0] rfl rfl (aE.q rfl (by decide) Qt.assign) ?_;refine go [.N,.Z,.R2,.f,.l,.b,.Z] ?_;refine cd (λc3=>?_) λc3=>?_
  ·try simp only[ah]at c3
   refine go [.R1,.m,.N,.f,.l] ?_;refine cv call240 rfl rfl (np _ (by omega) (by omega)) ?_;refine go [.N] ?_;refine qq (Qt.binOp rfl rfl c_) ?_;refine go [.a,.Z,.R1,.m,.N,.f,.l] ?_;refine cv call214 rfl rfl (cR _) ?_;refine go [.N] ?_;refine qq (Qt.binOp rfl rfl c_) ?_;refine go [.a,.Z,.R1,.b,.N,.m,.Z] ?_;refine⟨⟨i.k+1,by omega⟩,ar.bb ⟨ew,rfl,rfl,(by rw[hnx];simp only[ax,reduceIte,Nat.reduceEqDiff,gz,ny,ByteArray.append_assoc];first|rw[if_pos (by omega)]|rw[if_neg (by omega)]),rfl,Rf rfl,trivial⟩ rfl rfl,?_⟩;dsimp only;omega
  try simp only[ah]at c3
  refine go [.R1,.m,.f,.N,.l] ?_;refine cv call214 rfl rfl (cR _) ?_;refine go [.N] ?_;refine qq (Qt.binOp rfl rfl c_) ?_;refine go [.a,.Z,.R1,.m,.N,.f,.l] ?_;refine cv call214 rfl rfl (cR _) ?_;refine go [.N] ?_;refine qq (Qt.binOp rfl rfl c_) ?_;refine go [.a,.Z,.R1,.b,.N,.m,.Z] ?_;refine⟨⟨i.k+1,by omega⟩,ar.bb ⟨ew,rfl,rfl,(by rw[hnx];simp only[ax,reduceIte,Nat.reduceEqDiff,gz,ny,ByteArray.append_assoc];first|rw[if_pos (by omega)]|rw[if_neg (by omega)]),rfl,Rf rfl,trivial⟩ rfl rfl,?_⟩;dsimp only;omega
 try simp only[ah]at c2
 refine AW.exit ?_;dsimp only[aD,au,reduceIte];refine go [.R,.m,.a,.Z] ?_;refine aQ 2 ?_;rw[show nr l=gJ l i.k from(if_pos hpr).trans (by rw[show i.k=l.length by omega])];rfl
end Go.Proofs.YtekcnnngjoonbaaGreat.VM

