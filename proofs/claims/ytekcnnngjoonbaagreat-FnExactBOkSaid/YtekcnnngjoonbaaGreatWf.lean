/- Contracts. No conditions. -/
import Derived.Test.YtekcnnngjoonbaaGreatWe
set_option linter.all false
set_option maxHeartbeats 8000000
set_option maxRecDepth 10000
namespace Go.Proofs.YtekcnnngjoonbaaGreat.VM
open List Nat
open Go Go.RowKit Go.Proofs
structure dE where
 Op:Int
 A:Int
 B:Int
 C:Int
deriving DecidableEq
instance:En dE:=⟨4,by omega,λa=>[.v (iv a.Op), .v (iv a.A), .v (iv a.B), .v (iv a.C)],λ_=>rfl,λa=>En.fit a.Op∧En.fit a.A∧En.fit a.B∧En.fit a.C,⟨0,0,0,0⟩⟩
@[go_sem] theorem Bv(a:dE):En.cs a=[.v (iv a.Op), .v (iv a.A), .v (iv a.B), .v (iv a.C)]:=rfl
instance:Mk dE:={ wt:=λ_=>0,dO:=λa=>1+1+1+1,mark:=λ_ k=>⟨k,k+1,k+1+1,k+1+1+1⟩,dN:=λa k=>by simp[Mk.dN] }
structure oM where
 Pc:Int
 cy:List Int
deriving DecidableEq
instance:En oM:=⟨2,by omega,λa=>[.v (iv a.Pc),tr a.cy],λ_=>rfl,λa=>En.fit a.Pc∧En.fit a.cy,⟨0,[]⟩⟩
@[go_sem] theorem Bu(a:oM):En.cs a=[.v (iv a.Pc),tr a.cy]:=rfl
instance:Mk oM:={ wt:=λa=>Mk.wt a.cy,dO:=λa=>1+(Mk.dO a.cy),mark:=λa k=>⟨k,Mk.mark a.cy (k+1)⟩,dN:=λa k=>by simp[Mk.dN] }
structure dD where
 fc:Int
 b_:Int
 State:Int
 ft:Int
 d_:oM
 bb:List Int
 cV:List Int
 di:Int
 Code:Int
deriving DecidableEq
instance:En dD:=⟨10,by omega,λa=>[.v (iv a.fc), .v (iv a.b_), .v (iv a.State), .v (iv a.ft), .v (iv a.d_.Pc),tr a.d_.cy,tr a.bb,tr a.cV, .v (iv a.di), .v (iv a.Code)],λ_=>rfl,λa=>En.fit a.fc∧En.fit a.b_∧En.fit a.State∧En.fit a.ft∧En.fit a.d_∧En.fit a.bb∧En.fit a.cV∧En.fit a.di∧En.fit a.Code,⟨0,0,0,0,⟨0,[]⟩,[],[],0,0⟩⟩
@[go_sem] theorem A7(a:dD):En.cs a=[.v (iv a.fc), .v (iv a.b_), .v (iv a.State), .v (iv a.ft), .v (iv a.d_.Pc),tr a.d_.cy,tr a.bb,tr a.cV, .v (iv a.di), .v (iv a.Code)]:=rfl
instance:Mk dD:={ wt:=λa=>Mk.wt a.d_.cy+Mk.wt a.bb+Mk.wt a.cV,dO:=λa=>1+1+1+1+1+(Mk.dO a.d_.cy)+(Mk.dO a.bb)+(Mk.dO a.cV)+1+1,mark:=λa k=>⟨k,k+1,k+1+1,k+1+1+1,⟨k+1+1+1+1,Mk.mark a.d_.cy (k+1+1+1+1+1)⟩,Mk.mark a.bb (k+1+1+1+1+1+(Mk.dO a.d_.cy:Nat)),Mk.mark a.cV (k+1+1+1+1+1+(Mk.dO a.d_.cy:Nat)+(Mk.dO a.bb:Nat)),k+1+1+1+1+1+(Mk.dO a.d_.cy:Nat)+(Mk.dO a.bb:Nat)+(Mk.dO a.cV:Nat),k+1+1+1+1+1+(Mk.dO a.d_.cy:Nat)+(Mk.dO a.bb:Nat)+(Mk.dO a.cV:Nat)+1⟩,dN:=λa k=>by simp[Mk.dN] }
structure gN where
 aU:List (List Int)
deriving DecidableEq
instance:En gN:=⟨1,by omega,λa=>[tr a.aU],λ_=>rfl,λa=>En.fit a.aU,⟨[]⟩⟩
@[go_sem] theorem A6(a:gN):En.cs a=[tr a.aU]:=rfl
instance:Mk gN:={ wt:=λa=>Mk.wt a.aU,dO:=λa=>(Mk.dO a.aU),mark:=λa k=>⟨Mk.mark a.aU (k)⟩,dN:=λa k=>by simp[Mk.dN] }
structure aw where
 Id:Int
 Kind:Int
 Target:Int
 mi:Int
 gK:Int
deriving DecidableEq
instance:En aw:=⟨5,by omega,λa=>[.v (iv a.Id), .v (iv a.Kind), .v (iv a.Target), .v (iv a.mi), .v (iv a.gK)],λ_=>rfl,λa=>En.fit a.Id∧En.fit a.Kind∧En.fit a.Target∧En.fit a.mi∧En.fit a.gK,⟨0,0,0,0,0⟩⟩
@[go_sem] theorem Bi(a:aw):En.cs a=[.v (iv a.Id), .v (iv a.Kind), .v (iv a.Target), .v (iv a.mi), .v (iv a.gK)]:=rfl
instance:Mk aw:={ wt:=λ_=>0,dO:=λa=>1+1+1+1+1,mark:=λ_ k=>⟨k,k+1,k+1+1,k+1+1+1,k+1+1+1+1⟩,dN:=λa k=>by simp[Mk.dN] }
structure dp where
 Id:Int
 bn:List (List Int)
deriving DecidableEq
instance:En dp:=⟨2,by omega,λa=>[.v (iv a.Id),tr a.bn],λ_=>rfl,λa=>En.fit a.Id∧En.fit a.bn,⟨0,[]⟩⟩
@[go_sem] theorem A2(a:dp):En.cs a=[.v (iv a.Id),tr a.bn]:=rfl
instance:Mk dp:={ wt:=λa=>Mk.wt a.bn,dO:=λa=>1+(Mk.dO a.bn),mark:=λa k=>⟨k,Mk.mark a.bn (k+1)⟩,dN:=λa k=>by simp[Mk.dN] }
structure cm where
 Name:Int
 Data:List Int
deriving DecidableEq
instance:En cm:=⟨2,by omega,λa=>[.v (iv a.Name),tr a.Data],λ_=>rfl,λa=>En.fit a.Name∧En.fit a.Data,⟨0,[]⟩⟩
@[go_sem] theorem Bo(a:cm):En.cs a=[.v (iv a.Name),tr a.Data]:=rfl
instance:Mk cm:={ wt:=λa=>Mk.wt a.Data,dO:=λa=>1+(Mk.dO a.Data),mark:=λa k=>⟨k,Mk.mark a.Data (k+1)⟩,dN:=λa k=>by simp[Mk.dN] }
structure bH where
 Next:Int
 bF:Int
 aV:List (List dE)
 ah:List dD
 fb:List Int
 Heap:gN
 ax:List aw
 ao:List dp
 aC:List cm
 aR:List Int
 Out:List Int
deriving DecidableEq
instance:En bH:=⟨11,by omega,λa=>[.v (iv a.Next), .v (iv a.bF),tr a.aV,tr a.ah,tr a.fb,tr a.Heap.aU,tr a.ax,tr a.ao,tr a.aC,tr a.aR,tr a.Out],λ_=>rfl,λa=>En.fit a.Next∧En.fit a.bF∧En.fit a.aV∧En.fit a.ah∧En.fit a.fb∧En.fit a.Heap∧En.fit a.ax∧En.fit a.ao∧En.fit a.aC∧En.fit a.aR∧En.fit a.Out,⟨0,0,[],[],[],⟨[]⟩,[],[],[],[],[]⟩⟩
@[go_sem] theorem Ax(a:bH):En.cs a=[.v (iv a.Next), .v (iv a.bF),tr a.aV,tr a.ah,tr a.fb,tr a.Heap.aU,tr a.ax,tr a.ao,tr a.aC,tr a.aR,tr a.Out]:=rfl
instance:Mk bH:={ wt:=λa=>Mk.wt a.aV+Mk.wt a.ah+Mk.wt a.fb+Mk.wt a.Heap.aU+Mk.wt a.ax+Mk.wt a.ao+Mk.wt a.aC+Mk.wt a.aR+Mk.wt a.Out,dO:=λa=>1+1+(Mk.dO a.aV)+(Mk.dO a.ah)+(Mk.dO a.fb)+(Mk.dO a.Heap.aU)+(Mk.dO a.ax)+(Mk.dO a.ao)+(Mk.dO a.aC)+(Mk.dO a.aR)+(Mk.dO a.Out),mark:=λa k=>⟨k,k+1,Mk.mark a.aV (k+1+1),Mk.mark a.ah (k+1+1+(Mk.dO a.aV:Nat)),Mk.mark a.fb (k+1+1+(Mk.dO a.aV:Nat)+(Mk.dO a.ah:Nat)),⟨Mk.mark a.Heap.aU (k+1+1+(Mk.dO a.aV:Nat)+(Mk.dO a.ah:Nat)+(Mk.dO a.fb:Nat))⟩,Mk.mark a.ax (k+1+1+(Mk.dO a.aV:Nat)+(Mk.dO a.ah:Nat)+(Mk.dO a.fb:Nat)+(Mk.dO a.Heap.aU:Nat)),Mk.mark a.ao (k+1+1+(Mk.dO a.aV:Nat)+(Mk.dO a.ah:Nat)+(Mk.dO a.fb:Nat)+(Mk.dO a.Heap.aU:Nat)+(Mk.dO a.ax:Nat)),Mk.mark a.aC (k+1+1+(Mk.dO a.aV:Nat)+(Mk.dO a.ah:Nat)+(Mk.dO a.fb:Nat)+(Mk.dO a.Heap.aU:Nat)+(Mk.dO a.ax:Nat)+(Mk.dO a.ao:Nat)),Mk.mark a.aR (k+1+1+(Mk.dO a.aV:Nat)+(Mk.dO a.ah:Nat)+(Mk.dO a.fb:Nat)+(Mk.dO a.Heap.aU:Nat)+(Mk.dO a.ax:Nat)+(Mk.dO a.ao:Nat)+(Mk.dO a.aC:Nat)),Mk.mark a.Out (k+1+1+(Mk.dO a.aV:Nat)+(Mk.dO a.ah:Nat)+(Mk.dO a.fb:Nat)+(Mk.dO a.Heap.aU:Nat)+(Mk.dO a.ax:Nat)+(Mk.dO a.ao:Nat)+(Mk.dO a.aC:Nat)+(Mk.dO a.aR:Nat))⟩,dN:=λa k=>by simp[Mk.dN] }
theorem uY(a:List dE)(left:Int)(h1: -1≤left)(h2:left≤1048576):bf Tryz.prog 89 [.h aa [], .v (iv left)] [.rt aa .ro (tr a)] (λy _=>y= .v (iv (ia (Mk.wt a) left))):=by
 refine ob Tryz.func89 Tryz.ntmps89 ?_;have hw:Mk.wt a=a.length:=by rw[da,j_ (w:=Mk.wt) (λ_=>rfl)];rfl
 refine AW.len aa [] rfl (by simp[ck]) rfl (λhl=>?_);refine go [.R,.a,.Z,.R,.m,.m,.N,.h,.b,.a,.Z,.R2,.m,.N,.b,.Z] (k:=?_);refine cd (λc1=>?_) λc1=>?_
 ·try simp only[ai]at c1
  refine go [.R,.a,.Z] (k:=?_);refine aM 4 ?_;simp only[bj,aA,reduceIte,Nat.reduceEqDiff,ia,hw];congr 2;omega
 try simp only[ai]at c1
 refine go [.J,.R,.m,.N,.a,.Z] (k:=?_);refine aM 4 ?_;simp only[bj,aA,reduceIte,Nat.reduceEqDiff,ia,hw];congr 2;omega
theorem tj(a:List (List dE))(left:Int)(h1: -1≤left)(h2:left≤1048576):bf Tryz.prog 19 [.h aa [], .v (iv left)] [.rt aa .ro (tr a)] (λy _=>y= .v (iv (ia (Mk.wt a) left))):=by
 refine ob Tryz.func19 Tryz.ntmps19 ?_;have hw:Mk.wt a=a.length+lN Mk.wt a:=rfl;refine AW.len aa [] rfl (by simp[ck]) rfl (λhl=>?_);refine go [.R,.a,.Z,.R,.m,.m,.N,.h,.b,.a,.Z,.R2,.m,.N,.b,.Z] (k:=?_);refine cd (λc1=>?_) λc1=>?_
 ·try simp only[ai]at c1
  refine go [.R,.a,.Z] (k:=?_);refine aM 4 ?_;simp only[bj,aA,reduceIte,Nat.reduceEqDiff]
  try have hi0:=i.nn
  have hcw:=dl a;have hz:=b8 (Mk.wt a) left
  try have hce:bB Mk.wt En.ab a i.k=bB Mk.wt En.ab a a.length:=by rw[show i.k=a.length by omega]
  congr 2;omega
 try simp only[ai]at c1
 refine jd (bP ?_);refine go [.a,.Z] (k:=?_);refine AW.block ?_;refine AW.bc (L':=[.sl 5 (.v (iv (0:Nat))), .sl 1 (.v (iv (left-a.length-(bB Mk.wt En.ab a 0:Nat)))), .sl 0 (.h aa []), .rt aa .ro (tr a)]) (ar.aZ ⟨rfl,(by simp only[aA,reduceIte,Nat.reduceEqDiff];show X.v (iv (left-a.length))=_;simp[bB]),rfl,Rf rfl,trivial⟩ rfl rfl) ?_;refine AW.loop (λi:tQ left a=>[.sl 5 (.v (iv i.k)), .sl 1 (.v (iv (left-a.length-(bB Mk.wt En.ab a i.k:Nat)))), .sl 0 (.h aa []), .rt aa .ro (tr a)]) (λi=>a.length-i.k) ⟨0,zero_le _,by simp only[bB];omega⟩ ?_;intro i;have hle:=i.le;refine go [.R2,.m,.N,.m,.h,.b,.Z] (k:=?_);refine cd (λc2=>?_) λc2=>?_
 ·try simp only[ai]at c2
  have hi0:=i.nn;have hcw:=dl a;have hc1:=dQ (c:=Mk.wt) (d:=En.ab) (l:=a) (show i.k+1≤a.length by omega);simp only[bB]at hc1;have hz2:=b8 (Mk.wt (a.getD i.k En.ab)) (left-a.length-(bB Mk.wt En.ab a i.k:Nat));refine jd (AW.seq (AW.block (sr ?_)));refine go [.m,.N,.m,.i,.l,.N,.m] (k:=?_);refine cv Tryz.call89 rfl rfl (uY _ _ (by first|omega|(repeat (first|omega|apply dL))) (by first|omega|(repeat (first|omega|apply dM)))) ?_;refine go [.N,.a,.Z,.R,.m,.b,.Z] (k:=?_);refine cd (λc3=>?_) λc3=>?_
  ·try simp only[ai]at c3
   refine go [.R,.a,.Z] (k:=?_);refine aM 4 ?_;simp only[bj,aA,reduceIte,Nat.reduceEqDiff]
   try have hi0:=i.nn
   have hcw:=dl a;have hz:=b8 (Mk.wt a) left
   try have hce:bB Mk.wt En.ab a i.k=bB Mk.wt En.ab a a.length:=by rw[show i.k=a.length by omega]
   congr 2;omega
  try simp only[ai]at c3
  refine go [.J,.R1,.m,.N,.b,.a,.Z] (k:=?_);refine⟨⟨i.k+1,by omega,by simp only[bB];omega⟩,ar.aZ ⟨fe,(by simp only[aA,reduceIte,Nat.reduceEqDiff];congr 2;simp only[bB];omega),rfl,Rf rfl,trivial⟩ rfl rfl,?_⟩;show a.length-(i.k+1)<a.length-i.k;omega
 try simp only[ai]at c2
 refine AW.exit ?_;dsimp only[aJ,ay,reduceIte];refine go [.R,.m,.N,.a,.Z] (k:=?_);refine aM 4 ?_;simp only[bj,aA,reduceIte,Nat.reduceEqDiff]
 try have hi0:=i.nn
 have hcw:=dl a;have hz:=b8 (Mk.wt a) left
 try have hce:bB Mk.wt En.ab a i.k=bB Mk.wt En.ab a a.length:=by rw[show i.k=a.length by omega]
 congr 2;omega
theorem eQ(a:List Int)(left:Int)(h1: -1≤left)(h2:left≤1048576):bf Tryz.prog 21 [.h aa [], .v (iv left)] [.rt aa .ro (tr a)] (λy _=>y= .v (iv (ia (Mk.wt a) left))):=by
 refine ob Tryz.func21 Tryz.ntmps21 ?_;have hw:Mk.wt a=a.length:=by rw[da,j_ (w:=Mk.wt) (λ_=>rfl)];rfl
 refine AW.len aa [] rfl (by simp[ck]) rfl (λhl=>?_);refine go [.R,.a,.Z,.R,.m,.m,.N,.h,.b,.a,.Z,.R2,.m,.N,.b,.Z] (k:=?_);refine cd (λc1=>?_) λc1=>?_
 ·try simp only[ai]at c1
  refine go [.R,.a,.Z] (k:=?_);refine aM 4 ?_;simp only[bj,aA,reduceIte,Nat.reduceEqDiff,ia,hw];congr 2;omega
 try simp only[ai]at c1
 refine go [.J,.R,.m,.N,.a,.Z] (k:=?_);refine aM 4 ?_;simp only[bj,aA,reduceIte,Nat.reduceEqDiff,ia,hw];congr 2;omega
theorem vU(a:oM)(left:Int)(h1: -1≤left)(h2:left≤1048576):bf Tryz.prog 164 [.g [.v (iv a.Pc), .h aa []], .v (iv left)] [.rt aa .ro (tr a.cy)] (λy _=>y= .v (iv (ia (Mk.wt a) left))):=by
 refine ob Tryz.func164 Tryz.ntmps164 ?_;refine go [.R,.B,.N,.a,.Z,.R,.f,.l,.N,.m] (k:=?_);refine cv Tryz.call21 rfl rfl (eQ _ _ (by first|omega|(repeat (first|omega|apply dL))) (by first|omega|(repeat (first|omega|apply dM)))) ?_;refine go [.N,.a,.Z,.R2,.m,.b,.Z] (k:=?_);refine cd (λc1=>?_) λc1=>?_
 ·try simp only[ai]at c1
  refine go [.R,.a,.Z] (k:=?_);refine aM 4 ?_;simp only[bj,aA,reduceIte,Nat.reduceEqDiff]
  first|rfl|(congr 2;simp only[ia,Mk.wt]at *; omega)
 try simp only[ai]at c1
 refine go [.J,.R,.m,.N,.a,.Z] (k:=?_);refine aM 4 ?_;simp only[bj,aA,reduceIte,Nat.reduceEqDiff]
 first|rfl|(congr 2;simp only[ia,Mk.wt]at *; omega)
theorem sP(a:dD)(left:Int)(h1: -1≤left)(h2:left≤1048576):bf Tryz.prog 90 [.g [.v (iv a.fc), .v (iv a.b_), .v (iv a.State), .v (iv a.ft), .v (iv a.d_.Pc), .h aa [], .h (aa+1) [], .h (aa+2) [], .v (iv a.di), .v (iv a.Code)], .v (iv left)] [.rt aa .ro (tr a.d_.cy), .rt (aa+1) .ro (tr a.bb), .rt (aa+2) .ro (tr a.cV)] (λy _=>y= .v (iv (ia (Mk.wt a) left))):=by
 refine ob Tryz.func90 Tryz.ntmps90 ?_;refine go [.R,.B,.N,.a,.Z,.R,.f,.G,.N,.m] (k:=?_);refine cv Tryz.call164 rfl rfl (vU _ _ (by first|omega|(repeat (first|omega|apply dL))) (by first|omega|(repeat (first|omega|apply dM)))) ?_;refine go [.N,.a,.Z,.R2,.m,.b,.Z] (k:=?_);refine cd (λc1=>?_) λc1=>?_
 ·try simp only[ai]at c1
  refine go [.R,.a,.Z] (k:=?_);refine aM 4 ?_;simp only[bj,aA,reduceIte,Nat.reduceEqDiff]
  first|rfl|(congr 2;simp only[ia,Mk.wt]at *; omega)
 try simp only[ai]at c1
 refine go [.J,.R,.f,.N,.l,.m] (k:=?_);refine cv Tryz.call21 rfl rfl (eQ _ _ (by first|omega|(repeat (first|omega|apply dL))) (by first|omega|(repeat (first|omega|apply dM)))) ?_;refine go [.N,.a,.Z,.R2,.m,.b,.Z] (k:=?_);refine cd (λc2=>?_) λc2=>?_
 ·try simp only[ai]at c2
  refine go [.R,.a,.Z] (k:=?_);refine aM 4 ?_;simp only[bj,aA,reduceIte,Nat.reduceEqDiff]
  first|rfl|(congr 2;simp only[ia,Mk.wt]at *; omega)
 try simp only[ai]at c2
 refine go [.J,.R,.f,.N,.l,.m] (k:=?_);refine cv Tryz.call21 rfl rfl (eQ _ _ (by first|omega|(repeat (first|omega|apply dL))) (by first|omega|(repeat (first|omega|apply dM)))) ?_;refine go [.N,.a,.Z,.R2,.m,.b,.Z] (k:=?_);refine cd (λc3=>?_) λc3=>?_
 ·try simp only[ai]at c3
  refine go [.R,.a,.Z] (k:=?_);refine aM 4 ?_;simp only[bj,aA,reduceIte,Nat.reduceEqDiff]
  first|rfl|(congr 2;simp only[ia,Mk.wt]at *; omega)
 try simp only[ai]at c3
 refine go [.J,.R,.m,.N,.a,.Z] (k:=?_);refine aM 4 ?_;simp only[bj,aA,reduceIte,Nat.reduceEqDiff]
 first|rfl|(congr 2;simp only[ia,Mk.wt]at *; omega)
theorem qT(a:List dD)(left:Int)(h1: -1≤left)(h2:left≤1048576):bf Tryz.prog 20 [.h aa [], .v (iv left)] [.rt aa .ro (tr a)] (λy _=>y= .v (iv (ia (Mk.wt a) left))):=by
 refine ob Tryz.func20 Tryz.ntmps20 ?_;have hw:Mk.wt a=a.length+lN Mk.wt a:=rfl;refine AW.len aa [] rfl (by simp[ck]) rfl (λhl=>?_);refine go [.R,.a,.Z,.R,.m,.m,.N,.h,.b,.a,.Z,.R2,.m,.N,.b,.Z] (k:=?_);refine cd (λc1=>?_) λc1=>?_
 ·try simp only[ai]at c1
  refine go [.R,.a,.Z] (k:=?_);refine aM 4 ?_;simp only[bj,aA,reduceIte,Nat.reduceEqDiff]
  try have hi0:=i.nn
  have hcw:=dl a;have hz:=b8 (Mk.wt a) left
  try have hce:bB Mk.wt En.ab a i.k=bB Mk.wt En.ab a a.length:=by rw[show i.k=a.length by omega]
  congr 2;omega
 try simp only[ai]at c1
 refine jd (bP ?_);refine go [.a,.Z] (k:=?_);refine AW.block ?_;refine AW.bc (L':=[.sl 5 (.v (iv (0:Nat))), .sl 1 (.v (iv (left-a.length-(bB Mk.wt En.ab a 0:Nat)))), .sl 0 (.h aa []), .rt aa .ro (tr a)]) (ar.aZ ⟨rfl,(by simp only[aA,reduceIte,Nat.reduceEqDiff];show X.v (iv (left-a.length))=_;simp[bB]),rfl,Rf rfl,trivial⟩ rfl rfl) ?_;refine AW.loop (λi:tQ left a=>[.sl 5 (.v (iv i.k)), .sl 1 (.v (iv (left-a.length-(bB Mk.wt En.ab a i.k:Nat)))), .sl 0 (.h aa []), .rt aa .ro (tr a)]) (λi=>a.length-i.k) ⟨0,zero_le _,by simp only[bB];omega⟩ ?_;intro i;have hle:=i.le;refine go [.R2,.m,.N,.m,.h,.b,.Z] (k:=?_);refine cd (λc2=>?_) λc2=>?_
 ·try simp only[ai]at c2
  have hi0:=i.nn;have hcw:=dl a;have hc1:=dQ (c:=Mk.wt) (d:=En.ab) (l:=a) (show i.k+1≤a.length by omega);simp only[bB]at hc1;have hz2:=b8 (Mk.wt (a.getD i.k En.ab)) (left-a.length-(bB Mk.wt En.ab a i.k:Nat));refine jd (AW.seq (AW.block (sr ?_)));refine go [.m,.N,.m,.i,.G,.N,.m] (k:=?_);refine cv Tryz.call90 rfl rfl (sP _ _ (by first|omega|(repeat (first|omega|apply dL))) (by first|omega|(repeat (first|omega|apply dM)))) ?_;refine go [.N,.a,.Z,.R,.m,.b,.Z] (k:=?_);refine cd (λc3=>?_) λc3=>?_
  ·try simp only[ai]at c3
   refine go [.R,.a,.Z] (k:=?_);refine aM 4 ?_;simp only[bj,aA,reduceIte,Nat.reduceEqDiff]
   try have hi0:=i.nn
   have hcw:=dl a;have hz:=b8 (Mk.wt a) left
   try have hce:bB Mk.wt En.ab a i.k=bB Mk.wt En.ab a a.length:=by rw[show i.k=a.length by omega]
   congr 2;omega
  try simp only[ai]at c3
  refine go [.J,.R1,.m,.N,.b,.a,.Z] (k:=?_);refine⟨⟨i.k+1,by omega,by simp only[bB];omega⟩,ar.aZ ⟨fe,(by simp only[aA,reduceIte,Nat.reduceEqDiff];congr 2;simp only[bB];omega),rfl,Rf rfl,trivial⟩ rfl rfl,?_⟩;show a.length-(i.k+1)<a.length-i.k;omega
 try simp only[ai]at c2
 refine AW.exit ?_;dsimp only[aJ,ay,reduceIte];refine go [.R,.m,.N,.a,.Z] (k:=?_);refine aM 4 ?_;simp only[bj,aA,reduceIte,Nat.reduceEqDiff]
 try have hi0:=i.nn
 have hcw:=dl a;have hz:=b8 (Mk.wt a) left
 try have hce:bB Mk.wt En.ab a i.k=bB Mk.wt En.ab a a.length:=by rw[show i.k=a.length by omega]
 congr 2;omega
theorem mQ(a:List (List Int))(left:Int)(h1: -1≤left)(h2:left≤1048576):bf Tryz.prog 91 [.h aa [], .v (iv left)] [.rt aa .ro (tr a)] (λy _=>y= .v (iv (ia (Mk.wt a) left))):=by
 refine ob Tryz.func91 Tryz.ntmps91 ?_;have hw:Mk.wt a=a.length+lN Mk.wt a:=rfl;refine AW.len aa [] rfl (by simp[ck]) rfl (λhl=>?_);refine go [.R,.a,.Z,.R,.m,.m,.N,.h,.b,.a,.Z,.R2,.m,.N,.b,.Z] (k:=?_);refine cd (λc1=>?_) λc1=>?_
 ·try simp only[ai]at c1
  refine go [.R,.a,.Z] (k:=?_);refine aM 4 ?_;simp only[bj,aA,reduceIte,Nat.reduceEqDiff]
  try have hi0:=i.nn
  have hcw:=dl a;have hz:=b8 (Mk.wt a) left
  try have hce:bB Mk.wt En.ab a i.k=bB Mk.wt En.ab a a.length:=by rw[show i.k=a.length by omega]
  congr 2;omega
 try simp only[ai]at c1
 refine jd (bP ?_);refine go [.a,.Z] (k:=?_);refine AW.block ?_;refine AW.bc (L':=[.sl 5 (.v (iv (0:Nat))), .sl 1 (.v (iv (left-a.length-(bB Mk.wt En.ab a 0:Nat)))), .sl 0 (.h aa []), .rt aa .ro (tr a)]) (ar.aZ ⟨rfl,(by simp only[aA,reduceIte,Nat.reduceEqDiff];show X.v (iv (left-a.length))=_;simp[bB]),rfl,Rf rfl,trivial⟩ rfl rfl) ?_;refine AW.loop (λi:tQ left a=>[.sl 5 (.v (iv i.k)), .sl 1 (.v (iv (left-a.length-(bB Mk.wt En.ab a i.k:Nat)))), .sl 0 (.h aa []), .rt aa .ro (tr a)]) (λi=>a.length-i.k) ⟨0,zero_le _,by simp only[bB];omega⟩ ?_;intro i;have hle:=i.le;refine go [.R2,.m,.N,.m,.h,.b,.Z] (k:=?_);refine cd (λc2=>?_) λc2=>?_
 ·try simp only[ai]at c2
  have hi0:=i.nn;have hcw:=dl a;have hc1:=dQ (c:=Mk.wt) (d:=En.ab) (l:=a) (show i.k+1≤a.length by omega);simp only[bB]at hc1;have hz2:=b8 (Mk.wt (a.getD i.k En.ab)) (left-a.length-(bB Mk.wt En.ab a i.k:Nat));refine jd (AW.seq (AW.block (sr ?_)));refine go [.m,.N,.m,.i,.l,.N,.m] (k:=?_);refine cv Tryz.call21 rfl rfl (eQ _ _ (by first|omega|(repeat (first|omega|apply dL))) (by first|omega|(repeat (first|omega|apply dM)))) ?_;refine go [.N,.a,.Z,.R,.m,.b,.Z] (k:=?_);refine cd (λc3=>?_) λc3=>?_
  ·try simp only[ai]at c3
   refine go [.R,.a,.Z] (k:=?_);refine aM 4 ?_;simp only[bj,aA,reduceIte,Nat.reduceEqDiff]
   try have hi0:=i.nn
   have hcw:=dl a;have hz:=b8 (Mk.wt a) left
   try have hce:bB Mk.wt En.ab a i.k=bB Mk.wt En.ab a a.length:=by rw[show i.k=a.length by omega]
   congr 2;omega
  try simp only[ai]at c3
  refine go [.J,.R1,.m,.N,.b,.a,.Z] (k:=?_);refine⟨⟨i.k+1,by omega,by simp only[bB];omega⟩,ar.aZ ⟨fe,(by simp only[aA,reduceIte,Nat.reduceEqDiff];congr 2;simp only[bB];omega),rfl,Rf rfl,trivial⟩ rfl rfl,?_⟩;show a.length-(i.k+1)<a.length-i.k;omega
 try simp only[ai]at c2
 refine AW.exit ?_;dsimp only[aJ,ay,reduceIte];refine go [.R,.m,.N,.a,.Z] (k:=?_);refine aM 4 ?_;simp only[bj,aA,reduceIte,Nat.reduceEqDiff]
 try have hi0:=i.nn
 have hcw:=dl a;have hz:=b8 (Mk.wt a) left
 try have hce:bB Mk.wt En.ab a i.k=bB Mk.wt En.ab a a.length:=by rw[show i.k=a.length by omega]
 congr 2;omega
theorem rP(a:gN)(left:Int)(h1: -1≤left)(h2:left≤1048576):bf Tryz.prog 22 [.g [.h aa []], .v (iv left)] [.rt aa .ro (tr a.aU)] (λy _=>y= .v (iv (ia (Mk.wt a) left))):=by
 refine ob Tryz.func22 Tryz.ntmps22 ?_;refine go [.R,.B,.N,.a,.Z,.R,.f,.l,.N,.m] (k:=?_);refine cv Tryz.call91 rfl rfl (mQ _ _ (by first|omega|(repeat (first|omega|apply dL))) (by first|omega|(repeat (first|omega|apply dM)))) ?_;refine go [.N,.a,.Z,.R2,.m,.b,.Z] (k:=?_);refine cd (λc1=>?_) λc1=>?_
 ·try simp only[ai]at c1
  refine go [.R,.a,.Z] (k:=?_);refine aM 4 ?_;simp only[bj,aA,reduceIte,Nat.reduceEqDiff]
  first|rfl|(congr 2;simp only[ia,Mk.wt]at *; omega)
 try simp only[ai]at c1
 refine go [.J,.R,.m,.N,.a,.Z] (k:=?_);refine aM 4 ?_;simp only[bj,aA,reduceIte,Nat.reduceEqDiff]
 first|rfl|(congr 2;simp only[ia,Mk.wt]at *; omega)
theorem sb(a:List aw)(left:Int)(h1: -1≤left)(h2:left≤1048576):bf Tryz.prog 23 [.h aa [], .v (iv left)] [.rt aa .ro (tr a)] (λy _=>y= .v (iv (ia (Mk.wt a) left))):=by
 refine ob Tryz.func23 Tryz.ntmps23 ?_;have hw:Mk.wt a=a.length:=by rw[da,j_ (w:=Mk.wt) (λ_=>rfl)];rfl
 refine AW.len aa [] rfl (by simp[ck]) rfl (λhl=>?_);refine go [.R,.a,.Z,.R,.m,.m,.N,.h,.b,.a,.Z,.R2,.m,.N,.b,.Z] (k:=?_);refine cd (λc1=>?_) λc1=>?_
 ·try simp only[ai]at c1
  refine go [.R,.a,.Z] (k:=?_);refine aM 4 ?_;simp only[bj,aA,reduceIte,Nat.reduceEqDiff,ia,hw];congr 2;omega
 try simp only[ai]at c1
 refine go [.J,.R,.m,.N,.a,.Z] (k:=?_);refine aM 4 ?_;simp only[bj,aA,reduceIte,Nat.reduceEqDiff,ia,hw];congr 2;omega
theorem su(a:dp)(left:Int)(h1: -1≤left)(h2:left≤1048576):bf Tryz.prog 92 [.g [.v (iv a.Id), .h aa []], .v (iv left)] [.rt aa .ro (tr a.bn)] (λy _=>y= .v (iv (ia (Mk.wt a) left))):=by
 refine ob Tryz.func92 Tryz.ntmps92 ?_;refine go [.R,.B,.N,.a,.Z,.R,.f,.l,.N,.m] (k:=?_);refine cv Tryz.call91 rfl rfl (mQ _ _ (by first|omega|(repeat (first|omega|apply dL))) (by first|omega|(repeat (first|omega|apply dM)))) ?_;refine go [.N,.a,.Z,.R2,.m,.b,.Z] (k:=?_);refine cd (λc1=>?_) λc1=>?_
 ·try simp only[ai]at c1
  refine go [.R,.a,.Z] (k:=?_);refine aM 4 ?_;simp only[bj,aA,reduceIte,Nat.reduceEqDiff]
  first|rfl|(congr 2;simp only[ia,Mk.wt]at *; omega)
 try simp only[ai]at c1
 refine go [.J,.R,.m,.N,.a,.Z] (k:=?_);refine aM 4 ?_;simp only[bj,aA,reduceIte,Nat.reduceEqDiff]
 first|rfl|(congr 2;simp only[ia,Mk.wt]at *; omega)
theorem qE(a:List dp)(left:Int)(h1: -1≤left)(h2:left≤1048576):bf Tryz.prog 24 [.h aa [], .v (iv left)] [.rt aa .ro (tr a)] (λy _=>y= .v (iv (ia (Mk.wt a) left))):=by
 refine ob Tryz.func24 Tryz.ntmps24 ?_;have hw:Mk.wt a=a.length+lN Mk.wt a:=rfl;refine AW.len aa [] rfl (by simp[ck]) rfl (λhl=>?_);refine go [.R,.a,.Z,.R,.m,.m,.N,.h,.b,.a,.Z,.R2,.m,.N,.b,.Z] (k:=?_);refine cd (λc1=>?_) λc1=>?_
 ·try simp only[ai]at c1
  refine go [.R,.a,.Z] (k:=?_);refine aM 4 ?_;simp only[bj,aA,reduceIte,Nat.reduceEqDiff]
  try have hi0:=i.nn
  have hcw:=dl a;have hz:=b8 (Mk.wt a) left
  try have hce:bB Mk.wt En.ab a i.k=bB Mk.wt En.ab a a.length:=by rw[show i.k=a.length by omega]
  congr 2;omega
 try simp only[ai]at c1
 refine jd (bP ?_);refine go [.a,.Z] (k:=?_);refine AW.block ?_;refine AW.bc (L':=[.sl 5 (.v (iv (0:Nat))), .sl 1 (.v (iv (left-a.length-(bB Mk.wt En.ab a 0:Nat)))), .sl 0 (.h aa []), .rt aa .ro (tr a)]) (ar.aZ ⟨rfl,(by simp only[aA,reduceIte,Nat.reduceEqDiff];show X.v (iv (left-a.length))=_;simp[bB]),rfl,Rf rfl,trivial⟩ rfl rfl) ?_;refine AW.loop (λi:tQ left a=>[.sl 5 (.v (iv i.k)), .sl 1 (.v (iv (left-a.length-(bB Mk.wt En.ab a i.k:Nat)))), .sl 0 (.h aa []), .rt aa .ro (tr a)]) (λi=>a.length-i.k) ⟨0,zero_le _,by simp only[bB];omega⟩ ?_;intro i;have hle:=i.le;refine go [.R2,.m,.N,.m,.h,.b,.Z] (k:=?_);refine cd (λc2=>?_) λc2=>?_
 ·try simp only[ai]at c2
  have hi0:=i.nn;have hcw:=dl a;have hc1:=dQ (c:=Mk.wt) (d:=En.ab) (l:=a) (show i.k+1≤a.length by omega);simp only[bB]at hc1;have hz2:=b8 (Mk.wt (a.getD i.k En.ab)) (left-a.length-(bB Mk.wt En.ab a i.k:Nat));refine jd (AW.seq (AW.block (sr ?_)));refine go [.m,.N,.m,.i,.G,.N,.m] (k:=?_);refine cv Tryz.call92 rfl rfl (su _ _ (by first|omega|(repeat (first|omega|apply dL))) (by first|omega|(repeat (first|omega|apply dM)))) ?_;refine go [.N,.a,.Z,.R,.m,.b,.Z] (k:=?_);refine cd (λc3=>?_) λc3=>?_
  ·try simp only[ai]at c3
   refine go [.R,.a,.Z] (k:=?_);refine aM 4 ?_;simp only[bj,aA,reduceIte,Nat.reduceEqDiff]
   try have hi0:=i.nn
   have hcw:=dl a;have hz:=b8 (Mk.wt a) left
   try have hce:bB Mk.wt En.ab a i.k=bB Mk.wt En.ab a a.length:=by rw[show i.k=a.length by omega]
   congr 2;omega
  try simp only[ai]at c3
  refine go [.J,.R1,.m,.N,.b,.a,.Z] (k:=?_);refine⟨⟨i.k+1,by omega,by simp only[bB];omega⟩,ar.aZ ⟨fe,(by simp only[aA,reduceIte,Nat.reduceEqDiff];congr 2;simp only[bB];omega),rfl,Rf rfl,trivial⟩ rfl rfl,?_⟩;show a.length-(i.k+1)<a.length-i.k;omega
 try simp only[ai]at c2
 refine AW.exit ?_;dsimp only[aJ,ay,reduceIte];refine go [.R,.m,.N,.a,.Z] (k:=?_);refine aM 4 ?_;simp only[bj,aA,reduceIte,Nat.reduceEqDiff]
 try have hi0:=i.nn
 have hcw:=dl a;have hz:=b8 (Mk.wt a) left
 try have hce:bB Mk.wt En.ab a i.k=bB Mk.wt En.ab a a.length:=by rw[show i.k=a.length by omega]
 congr 2;omega
theorem uG(a:cm)(left:Int)(h1: -1≤left)(h2:left≤1048576):bf Tryz.prog 93 [.g [.v (iv a.Name), .h aa []], .v (iv left)] [.rt aa .ro (tr a.Data)] (λy _=>y= .v (iv (ia (Mk.wt a) left))):=by
 refine ob Tryz.func93 Tryz.ntmps93 ?_;refine go [.R,.B,.N,.a,.Z,.R,.f,.l,.N,.m] (k:=?_);refine cv Tryz.call21 rfl rfl (eQ _ _ (by first|omega|(repeat (first|omega|apply dL))) (by first|omega|(repeat (first|omega|apply dM)))) ?_;refine go [.N,.a,.Z,.R2,.m,.b,.Z] (k:=?_);refine cd (λc1=>?_) λc1=>?_
 ·try simp only[ai]at c1
  refine go [.R,.a,.Z] (k:=?_);refine aM 4 ?_;simp only[bj,aA,reduceIte,Nat.reduceEqDiff]
  first|rfl|(congr 2;simp only[ia,Mk.wt]at *; omega)
 try simp only[ai]at c1
 refine go [.J,.R,.m,.N,.a,.Z] (k:=?_);refine aM 4 ?_;simp only[bj,aA,reduceIte,Nat.reduceEqDiff]
 first|rfl|(congr 2;simp only[ia,Mk.wt]at *; omega)
theorem tO(a:List cm)(left:Int)(h1: -1≤left)(h2:left≤1048576):bf Tryz.prog 25 [.h aa [], .v (iv left)] [.rt aa .ro (tr a)] (λy _=>y= .v (iv (ia (Mk.wt a) left))):=by
 refine ob Tryz.func25 Tryz.ntmps25 ?_;have hw:Mk.wt a=a.length+lN Mk.wt a:=rfl;refine AW.len aa [] rfl (by simp[ck]) rfl (λhl=>?_);refine go [.R,.a,.Z,.R,.m,.m,.N,.h,.b,.a,.Z,.R2,.m,.N,.b,.Z] (k:=?_);refine cd (λc1=>?_) λc1=>?_
 ·try simp only[ai]at c1
  refine go [.R,.a,.Z] (k:=?_);refine aM 4 ?_;simp only[bj,aA,reduceIte,Nat.reduceEqDiff]
  try have hi0:=i.nn
  have hcw:=dl a;have hz:=b8 (Mk.wt a) left
  try have hce:bB Mk.wt En.ab a i.k=bB Mk.wt En.ab a a.length:=by rw[show i.k=a.length by omega]
  congr 2;omega
 try simp only[ai]at c1
 refine jd (bP ?_);refine go [.a,.Z] (k:=?_);refine AW.block ?_;refine AW.bc (L':=[.sl 5 (.v (iv (0:Nat))), .sl 1 (.v (iv (left-a.length-(bB Mk.wt En.ab a 0:Nat)))), .sl 0 (.h aa []), .rt aa .ro (tr a)]) (ar.aZ ⟨rfl,(by simp only[aA,reduceIte,Nat.reduceEqDiff];show X.v (iv (left-a.length))=_;simp[bB]),rfl,Rf rfl,trivial⟩ rfl rfl) ?_;refine AW.loop (λi:tQ left a=>[.sl 5 (.v (iv i.k)), .sl 1 (.v (iv (left-a.length-(bB Mk.wt En.ab a i.k:Nat)))), .sl 0 (.h aa []), .rt aa .ro (tr a)]) (λi=>a.length-i.k) ⟨0,zero_le _,by simp only[bB];omega⟩ ?_;intro i;have hle:=i.le;refine go [.R2,.m,.N,.m,.h,.b,.Z] (k:=?_);refine cd (λc2=>?_) λc2=>?_
 ·try simp only[ai]at c2
  have hi0:=i.nn;have hcw:=dl a;have hc1:=dQ (c:=Mk.wt) (d:=En.ab) (l:=a) (show i.k+1≤a.length by omega);simp only[bB]at hc1;have hz2:=b8 (Mk.wt (a.getD i.k En.ab)) (left-a.length-(bB Mk.wt En.ab a i.k:Nat));refine jd (AW.seq (AW.block (sr ?_)));refine go [.m,.N,.m,.i,.G,.N,.m] (k:=?_);refine cv Tryz.call93 rfl rfl (uG _ _ (by first|omega|(repeat (first|omega|apply dL))) (by first|omega|(repeat (first|omega|apply dM)))) ?_;refine go [.N,.a,.Z,.R,.m,.b,.Z] (k:=?_);refine cd (λc3=>?_) λc3=>?_
  ·try simp only[ai]at c3
   refine go [.R,.a,.Z] (k:=?_);refine aM 4 ?_;simp only[bj,aA,reduceIte,Nat.reduceEqDiff]
   try have hi0:=i.nn
   have hcw:=dl a;have hz:=b8 (Mk.wt a) left
   try have hce:bB Mk.wt En.ab a i.k=bB Mk.wt En.ab a a.length:=by rw[show i.k=a.length by omega]
   congr 2;omega
  try simp only[ai]at c3
  refine go [.J,.R1,.m,.N,.b,.a,.Z] (k:=?_);refine⟨⟨i.k+1,by omega,by simp only[bB];omega⟩,ar.aZ ⟨fe,(by simp only[aA,reduceIte,Nat.reduceEqDiff];congr 2;simp only[bB];omega),rfl,Rf rfl,trivial⟩ rfl rfl,?_⟩;show a.length-(i.k+1)<a.length-i.k;omega
 try simp only[ai]at c2
 refine AW.exit ?_;dsimp only[aJ,ay,reduceIte];refine go [.R,.m,.N,.a,.Z] (k:=?_);refine aM 4 ?_;simp only[bj,aA,reduceIte,Nat.reduceEqDiff]
 try have hi0:=i.nn
 have hcw:=dl a;have hz:=b8 (Mk.wt a) left
 try have hce:bB Mk.wt En.ab a i.k=bB Mk.wt En.ab a a.length:=by rw[show i.k=a.length by omega]
 congr 2;omega
theorem td(a:bH)(left:Int)(h1: -1≤left)(h2:left≤1048576):bf Tryz.prog 6 [.g [.v (iv a.Next), .v (iv a.bF), .h aa [], .h (aa+1) [], .h (aa+2) [], .h (aa+3) [], .h (aa+4) [], .h (aa+5) [], .h (aa+6) [], .h (aa+7) [], .h (aa+8) []], .v (iv left)] [.rt aa .ro (tr a.aV), .rt (aa+1) .ro (tr a.ah), .rt (aa+2) .ro (tr a.fb), .rt (aa+3) .ro (tr a.Heap.aU), .rt (aa+4) .ro (tr a.ax), .rt (aa+5) .ro (tr a.ao), .rt (aa+6) .ro (tr a.aC), .rt (aa+7) .ro (tr a.aR), .rt (aa+8) .ro (tr a.Out)] (λy _=>y= .v (iv (ia (Mk.wt a) left))):=by
 refine ob Tryz.func6 Tryz.ntmps6 ?_;refine go [.R,.B,.N,.a,.Z,.R,.f,.l,.N,.m] (k:=?_);refine cv Tryz.call19 rfl rfl (tj _ _ (by first|omega|(repeat (first|omega|apply dL))) (by first|omega|(repeat (first|omega|apply dM)))) ?_;refine go [.N,.a,.Z,.R2,.m,.b,.Z] (k:=?_);refine cd (λc1=>?_) λc1=>?_
 ·try simp only[ai]at c1
  refine go [.R,.a,.Z] (k:=?_);refine aM 4 ?_;simp only[bj,aA,reduceIte,Nat.reduceEqDiff]
  first|rfl|(congr 2;simp only[ia,Mk.wt]at *; omega)
 try simp only[ai]at c1
 refine go [.J,.R,.f,.N,.l,.m] (k:=?_);refine cv Tryz.call20 rfl rfl (qT _ _ (by first|omega|(repeat (first|omega|apply dL))) (by first|omega|(repeat (first|omega|apply dM)))) ?_;refine go [.N,.a,.Z,.R2,.m,.b,.Z] (k:=?_);refine cd (λc2=>?_) λc2=>?_
 ·try simp only[ai]at c2
  refine go [.R,.a,.Z] (k:=?_);refine aM 4 ?_;simp only[bj,aA,reduceIte,Nat.reduceEqDiff]
  first|rfl|(congr 2;simp only[ia,Mk.wt]at *; omega)
 try simp only[ai]at c2
 refine go [.J,.R,.f,.N,.l,.m] (k:=?_);refine cv Tryz.call21 rfl rfl (eQ _ _ (by first|omega|(repeat (first|omega|apply dL))) (by first|omega|(repeat (first|omega|apply dM)))) ?_;refine go [.N,.a,.Z,.R2,.m,.b,.Z] (k:=?_);refine cd (λc3=>?_) λc3=>?_
 ·try simp only[ai]at c3
  refine go [.R,.a,.Z] (k:=?_);refine aM 4 ?_;simp only[bj,aA,reduceIte,Nat.reduceEqDiff]
  first|rfl|(congr 2;simp only[ia,Mk.wt]at *; omega)
 try simp only[ai]at c3
 refine go [.J,.R,.f,.N,.G,.m] (k:=?_);refine cv Tryz.call22 rfl rfl (rP _ _ (by first|omega|(repeat (first|omega|apply dL))) (by first|omega|(repeat (first|omega|apply dM)))) ?_;refine go [.N,.a,.Z,.R2,.m,.b,.Z] (k:=?_);refine cd (λc4=>?_) λc4=>?_
 ·try simp only[ai]at c4
  refine go [.R,.a,.Z] (k:=?_);refine aM 4 ?_;simp only[bj,aA,reduceIte,Nat.reduceEqDiff]
  first|rfl|(congr 2;simp only[ia,Mk.wt]at *; omega)
 try simp only[ai]at c4
 refine go [.J,.R,.f,.N,.l,.m] (k:=?_);refine cv Tryz.call23 rfl rfl (sb _ _ (by first|omega|(repeat (first|omega|apply dL))) (by first|omega|(repeat (first|omega|apply dM)))) ?_;refine go [.N,.a,.Z,.R2,.m,.b,.Z] (k:=?_);refine cd (λc5=>?_) λc5=>?_
 ·try simp only[ai]at c5
  refine go [.R,.a,.Z] (k:=?_);refine aM 4 ?_;simp only[bj,aA,reduceIte,Nat.reduceEqDiff]
  first|rfl|(congr 2;simp only[ia,Mk.wt]at *; omega)
 try simp only[ai]at c5
 refine go [.J,.R,.f,.N,.l,.m] (k:=?_);refine cv Tryz.call24 rfl rfl (qE _ _ (by first|omega|(repeat (first|omega|apply dL))) (by first|omega|(repeat (first|omega|apply dM)))) ?_;refine go [.N,.a,.Z,.R2,.m,.b,.Z] (k:=?_);refine cd (λc6=>?_) λc6=>?_
 ·try simp only[ai]at c6
  refine go [.R,.a,.Z] (k:=?_);refine aM 4 ?_;simp only[bj,aA,reduceIte,Nat.reduceEqDiff]
  first|rfl|(congr 2;simp only[ia,Mk.wt]at *; omega)
 try simp only[ai]at c6
 refine go [.J,.R,.f,.N,.l,.m] (k:=?_);refine cv Tryz.call25 rfl rfl (tO _ _ (by first|omega|(repeat (first|omega|apply dL))) (by first|omega|(repeat (first|omega|apply dM)))) ?_;refine go [.N,.a,.Z,.R2,.m,.b,.Z] (k:=?_);refine cd (λc7=>?_) λc7=>?_
 ·try simp only[ai]at c7
  refine go [.R,.a,.Z] (k:=?_);refine aM 4 ?_;simp only[bj,aA,reduceIte,Nat.reduceEqDiff]
  first|rfl|(congr 2;simp only[ia,Mk.wt]at *; omega)
 try simp only[ai]at c7
 refine go [.J,.R,.f,.N,.l,.m] (k:=?_);refine cv Tryz.call21 rfl rfl (eQ _ _ (by first|omega|(repeat (first|omega|apply dL))) (by first|omega|(repeat (first|omega|apply dM)))) ?_;refine go [.N,.a,.Z,.R2,.m,.b,.Z] (k:=?_);refine cd (λc8=>?_) λc8=>?_
 ·try simp only[ai]at c8
  refine go [.R,.a,.Z] (k:=?_);refine aM 4 ?_;simp only[bj,aA,reduceIte,Nat.reduceEqDiff]
  first|rfl|(congr 2;simp only[ia,Mk.wt]at *; omega)
 try simp only[ai]at c8
 refine go [.J,.R,.f,.N,.l,.m] (k:=?_);refine cv Tryz.call21 rfl rfl (eQ _ _ (by first|omega|(repeat (first|omega|apply dL))) (by first|omega|(repeat (first|omega|apply dM)))) ?_;refine go [.N,.a,.Z,.R2,.m,.b,.Z] (k:=?_);refine cd (λc9=>?_) λc9=>?_
 ·try simp only[ai]at c9
  refine go [.R,.a,.Z] (k:=?_);refine aM 4 ?_;simp only[bj,aA,reduceIte,Nat.reduceEqDiff]
  first|rfl|(congr 2;simp only[ia,Mk.wt]at *; omega)
 try simp only[ai]at c9
 refine go [.J,.R,.m,.N,.a,.Z] (k:=?_);refine aM 4 ?_;simp only[bj,aA,reduceIte,Nat.reduceEqDiff]
 first|rfl|(congr 2;simp only[ia,Mk.wt]at *; omega)
theorem vY(a:dE):bf Tryz.prog 165 [.g [.v (iv a.Op), .v (iv a.A), .v (iv a.B), .v (iv a.C)]] [] (jY (.g [.v (iv a.Op), .v (iv a.A), .v (iv a.B), .v (iv a.C)]) []):=by
 refine ob Tryz.func165 Tryz.ntmps165 ?_;refine go [.R,.B,.N,.A,.Z,.R,.A,.Z,.R,.f,.N,.l,.f,.s,.Z,.R,.f,.N,.l,.f,.s,.Z,.R,.f,.N,.l,.f,.s,.Z,.R,.f,.N,.l,.f,.s,.Z,.R,.G,.N,.s,.Z] (k:=?_);refine AW.ret (cz (.cons (.ja 2 156 rfl rfl rfl za zi (by decide)) .nil) ?_);refine⟨λ_=>0,rfl,ak rfl,?_⟩;intro r hr;cases hr
theorem uC(a:List dE)(hw:Mk.wt a≤1048576):bf Tryz.prog 102 [.h aa []] [.rt aa .ro (tr a)] (jY (.h 0 []) [(0, .row,tr a)]):=by
 refine ob Tryz.func102 Tryz.ntmps102 ?_;have hw2:a.length+lN Mk.wt a≤1048576:=hw;refine go [.R,.a,.Z,.R,.m,.h,.N] (k:=?_);refine sp (aK.makeSlice rfl (by decide) (by decide) rfl rfl (by omega) (by omega) (by omega)) ?_;refine go [.N,.a,.Z,.R2,.a,.Z] (k:=?_);refine AW.block ?_;refine AW.bc (L':=[.sl 4 (.v (iv (0:Nat))), .sl 3 (.h 7 []), .sl 0 (.h aa []), .rt 7 .row (fR (0:Nat) a.length (λj=>a.getD j En.ab) λ_=>En.ab), .rt aa .ro (tr a)]) (ar.aZ ⟨rfl,rfl,rfl,⟨_,rfl,(ew rfl (λc hc=>match c,hc with|0,_=>au|1,_=>au|2,_=>au|3,_=>au|c+4,hc=>absurd hc (by simp only[En.n];omega)))⟩,Rf rfl,trivial⟩ rfl rfl) ?_;refine AW.loop (λi:ei a.length=>[.sl 4 (.v (iv i.k)), .sl 3 (.h 7 []), .sl 0 (.h aa []), .rt 7 .row (fR i.k a.length (λj=>a.getD j En.ab) λ_=>En.ab), .rt aa .ro (tr a)]) (λi=>a.length-i.k) ⟨0,zero_le _⟩ ?_;intro i;have hle:=i.le;refine go [.R2,.m,.N,.m,.h,.b,.Z] (k:=?_);refine cd (λc1=>?_) λc1=>?_
 ·try simp only[ai]at c1
  have hwk:=ga (w:=Mk.wt) (d:=En.ab) (l:=a) (i:=i.k) (by omega);refine jd (AW.seq (AW.block (AW.region ?_)));refine go [.m,.N,.m,.m,.m,.N,.i,.G] (k:=?_);refine sp (aK.bV rfl (by decide) Tryz.call165 rfl rfl (vY _) (ak rfl) rfl rfl) ?_;refine go [.N,.i,.s,.Z,.R1,.m,.N,.b,.a,.Z] (k:=?_);refine⟨⟨i.k+1,by omega⟩,ar.aZ ⟨fe,rfl,rfl,⟨_,rfl,eU (λi c hi=>by simp only[aj,hi,false_and,if_false];rfl) (λc hc=>match c,hc with|0,_=>(by simp only[aj,eq_self,and_true,and_false,Nat.reduceEqDiff,if_true,if_false];exact au)|1,_=>(by simp only[aj,eq_self,and_true,and_false,Nat.reduceEqDiff,if_true,if_false];exact au)|2,_=>(by simp only[aj,eq_self,and_true,and_false,Nat.reduceEqDiff,if_true,if_false];exact au)|3,_=>(by simp only[aj,eq_self,and_true,and_false,Nat.reduceEqDiff,if_true,if_false];exact au)|c+4,hc=>absurd hc (by simp only[En.n];omega))⟩,Rf rfl,trivial⟩ rfl rfl,?_⟩;show a.length-(i.k+1)<a.length-i.k;omega
 try simp only[ai]at c1
 refine AW.exit ?_;dsimp only[aJ,ay,reduceIte];refine go [.R,.m,.N,.a,.Z] (k:=?_);refine AW.bc (L':=[.rt 7 .row (tr a), .sl 2 (.h 7 [])]) (ar.aZ ⟨⟨_,rfl,eP (by omega) rfl (λ_ _=>rfl)⟩,rfl,trivial⟩ rfl rfl) ?_;refine aM 2 ?_;refine⟨λ_=>7,rfl,ak rfl,?_⟩;intro r hr;cases List.mem_singleton.1 hr;exact⟨by simp,aq rfl⟩
theorem tI(a:List (List dE))(hw:Mk.wt a≤1048576):bf Tryz.prog 28 [.h aa []] [.rt aa .ro (tr a)] (jY (.h 0 []) [(0, .row,tr a)]):=by
 refine ob Tryz.func28 Tryz.ntmps28 ?_;have hw2:a.length+lN Mk.wt a≤1048576:=hw;refine go [.R,.a,.Z,.R,.m,.h,.N] (k:=?_);refine sp (aK.makeSlice rfl (by decide) (by decide) rfl rfl (by omega) (by omega) (by omega)) ?_;refine go [.N,.a,.Z,.R2,.a,.Z] (k:=?_);refine AW.block ?_;refine AW.bc (L':=[.sl 4 (.v (iv (0:Nat))), .sl 3 (.h 7 []), .sl 0 (.h aa []), .rt 7 .row (fR (0:Nat) a.length (λj=>a.getD j En.ab) λ_=>En.ab), .rt aa .ro (tr a)]) (ar.aZ ⟨rfl,rfl,rfl,⟨_,rfl,(ew rfl (λc hc=>match c,hc with|0,_=>bS|c+1,hc=>absurd hc (by simp only[En.n];omega)))⟩,Rf rfl,trivial⟩ rfl rfl) ?_;refine AW.loop (λi:ei a.length=>[.sl 4 (.v (iv i.k)), .sl 3 (.h 7 []), .sl 0 (.h aa []), .rt 7 .row (fR i.k a.length (λj=>a.getD j En.ab) λ_=>En.ab), .rt aa .ro (tr a)]) (λi=>a.length-i.k) ⟨0,zero_le _⟩ ?_;intro i;have hle:=i.le;refine go [.R2,.m,.N,.m,.h,.b,.Z] (k:=?_);refine cd (λc1=>?_) λc1=>?_
 ·try simp only[ai]at c1
  have hwk:=ga (w:=Mk.wt) (d:=En.ab) (l:=a) (i:=i.k) (by omega);refine jd (AW.seq (AW.block (AW.region ?_)));refine go [.m,.N,.m,.m,.m,.N,.i,.l] (k:=?_);refine sp (aK.bV rfl (by decide) Tryz.call102 rfl rfl (uC _ (by first|omega|(simp only[Int.toNat_natCast];omega)|(simp only[Mk.wt]at *; omega))) (ak rfl) rfl rfl) ?_;refine go [.N,.i,.s,.Z,.R1,.m,.N,.b,.a,.Z] (k:=?_);refine⟨⟨i.k+1,by omega⟩,ar.aZ ⟨fe,rfl,rfl,⟨_,rfl,eU (λi c hi=>by simp only[aj,hi,false_and,if_false];rfl) (λc hc=>match c,hc with|0,_=>(by simp only[aj,eq_self,and_true,and_false,Nat.reduceEqDiff,if_true,if_false];exact au)|c+1,hc=>absurd hc (by simp only[En.n];omega))⟩,Rf rfl,trivial⟩ rfl rfl,?_⟩;show a.length-(i.k+1)<a.length-i.k;omega
 try simp only[ai]at c1
 refine AW.exit ?_;dsimp only[aJ,ay,reduceIte];refine go [.R,.m,.N,.a,.Z] (k:=?_);refine AW.bc (L':=[.rt 7 .row (tr a), .sl 2 (.h 7 [])]) (ar.aZ ⟨⟨_,rfl,eP (by omega) rfl (λ_ _=>rfl)⟩,rfl,trivial⟩ rfl rfl) ?_;refine aM 2 ?_;refine⟨λ_=>7,rfl,ak rfl,?_⟩;intro r hr;cases List.mem_singleton.1 hr;exact⟨by simp,aq rfl⟩
theorem eX(a:List Int)(hw:Mk.wt a≤1048576):bf Tryz.prog 30 [.h aa []] [.rt aa .ro (tr a)] (jY (.h 0 []) [(0, .row,tr a)]):=by
 refine ob Tryz.func30 Tryz.ntmps30 ?_;have hw2:a.length+lN Mk.wt a≤1048576:=hw;refine go [.R,.a,.Z,.R,.m,.h,.N] (k:=?_);refine sp (aK.makeSlice rfl (by decide) (by decide) rfl rfl (by omega) (by omega) (by omega)) ?_;refine go [.N,.a,.Z,.R2,.a,.Z] (k:=?_);refine AW.block ?_;refine AW.bc (L':=[.sl 4 (.v (iv (0:Nat))), .sl 3 (.h 7 []), .sl 0 (.h aa []), .rt 7 .row (fR (0:Nat) a.length (λj=>a.getD j En.ab) λ_=>En.ab), .rt aa .ro (tr a)]) (ar.aZ ⟨rfl,rfl,rfl,⟨_,rfl,(ew rfl (λc hc=>match c,hc with|0,_=>au|c+1,hc=>absurd hc (by simp only[En.n];omega)))⟩,Rf rfl,trivial⟩ rfl rfl) ?_;refine AW.loop (λi:ei a.length=>[.sl 4 (.v (iv i.k)), .sl 3 (.h 7 []), .sl 0 (.h aa []), .rt 7 .row (fR i.k a.length (λj=>a.getD j En.ab) λ_=>En.ab), .rt aa .ro (tr a)]) (λi=>a.length-i.k) ⟨0,zero_le _⟩ ?_;intro i;have hle:=i.le;refine go [.R2,.m,.N,.m,.h,.b,.Z] (k:=?_);refine cd (λc1=>?_) λc1=>?_
 ·try simp only[ai]at c1
  have hwk:=ga (w:=Mk.wt) (d:=En.ab) (l:=a) (i:=i.k) (by omega);refine jd (AW.seq (AW.block (AW.region ?_)));refine go [.m,.N,.m,.m,.m,.N,.i,.l,.i,.N,.s,.Z,.R1,.m,.N,.b,.a,.Z] (k:=?_);refine⟨⟨i.k+1,by omega⟩,ar.aZ ⟨fe,rfl,rfl,⟨_,rfl,eU (λi c hi=>by simp only[aj,hi,false_and,if_false];rfl) (λc hc=>match c,hc with|0,_=>(by simp only[aj,eq_self,and_true,and_false,Nat.reduceEqDiff,if_true,if_false];exact au)|c+1,hc=>absurd hc (by simp only[En.n];omega))⟩,Rf rfl,trivial⟩ rfl rfl,?_⟩;show a.length-(i.k+1)<a.length-i.k;omega
 try simp only[ai]at c1
 refine AW.exit ?_;dsimp only[aJ,ay,reduceIte];refine go [.R,.m,.N,.a,.Z] (k:=?_);refine AW.bc (L':=[.rt 7 .row (tr a), .sl 2 (.h 7 [])]) (ar.aZ ⟨⟨_,rfl,eP (by omega) rfl (λ_ _=>rfl)⟩,rfl,trivial⟩ rfl rfl) ?_;refine aM 2 ?_;refine⟨λ_=>7,rfl,ak rfl,?_⟩;intro r hr;cases List.mem_singleton.1 hr;exact⟨by simp,aq rfl⟩
theorem wh(a:oM)(hw:Mk.wt a≤1048576):bf Tryz.prog 166 [.g [.v (iv a.Pc), .h aa []]] [.rt aa .ro (tr a.cy)] (jY (.g [.v (iv a.Pc), .h 0 []]) [(0, .row,tr a.cy)]):=by
 refine ob Tryz.func166 Tryz.ntmps166 ?_;refine go [.R,.B,.N,.A,.Z,.R,.A,.Z,.R,.f,.N,.l,.f,.s,.Z,.R,.f,.N,.l] (k:=?_);refine sp (aK.bV rfl (by decide) Tryz.call30 rfl rfl (eX _ (by first|omega|(simp only[Int.toNat_natCast];omega)|(simp only[Mk.wt]at *; omega))) (ak rfl) rfl rfl) ?_;refine go [.N,.f,.s,.Z,.R,.G,.N,.s,.Z] (k:=?_);refine AW.ret (cz (.cons (.ja 2 75 rfl rfl rfl yH vW (by decide)) .nil) ?_);refine⟨λ_=>9,rfl,ak rfl,?_⟩;intro r hr;cases List.mem_singleton.1 hr;exact⟨by simp,aq rfl⟩
theorem tT(a:dD)(hw:Mk.wt a≤1048576):bf Tryz.prog 103 [.g [.v (iv a.fc), .v (iv a.b_), .v (iv a.State), .v (iv a.ft), .v (iv a.d_.Pc), .h aa [], .h (aa+1) [], .h (aa+2) [], .v (iv a.di), .v (iv a.Code)]] [.rt aa .ro (tr a.d_.cy), .rt (aa+1) .ro (tr a.bb), .rt (aa+2) .ro (tr a.cV)] (jY (.g [.v (iv a.fc), .v (iv a.b_), .v (iv a.State), .v (iv a.ft), .v (iv a.d_.Pc), .h 0 [], .h 1 [], .h 2 [], .v (iv a.di), .v (iv a.Code)]) [(0, .row,tr a.d_.cy),(1, .row,tr a.bb),(2, .row,tr a.cV)]):=by
 refine ob Tryz.func103 Tryz.ntmps103 ?_;refine go [.R,.B,.N,.A,.Z,.R,.A,.Z,.R,.f,.N,.l,.f,.s,.Z,.R,.f,.N,.l,.f,.s,.Z,.R,.f,.N,.l,.f,.s,.Z,.R,.f,.N,.l,.f,.s,.Z,.R,.f,.N,.G] (k:=?_);refine sp (aK.bV rfl (by decide) Tryz.call166 rfl rfl (wh _ (by first|omega|(simp only[Int.toNat_natCast];omega)|(simp only[Mk.wt]at *; omega))) (ak rfl) rfl rfl) ?_;refine go [.N,.f,.s,.Z,.R,.f,.N,.l] (k:=?_);refine sp (aK.bV rfl (by decide) Tryz.call30 rfl rfl (eX _ (by first|omega|(simp only[Int.toNat_natCast];omega)|(simp only[Mk.wt]at *; omega))) (ak rfl) rfl rfl) ?_;refine go [.N,.f,.s,.Z,.R,.f,.N,.l] (k:=?_);refine sp (aK.bV rfl (by decide) Tryz.call30 rfl rfl (eX _ (by first|omega|(simp only[Int.toNat_natCast];omega)|(simp only[Mk.wt]at *; omega))) (ak rfl) rfl rfl) ?_;refine go [.N,.f,.s,.Z,.R,.f,.N,.l,.f,.s,.Z,.R,.f,.N,.l,.f,.s,.Z,.R,.G,.N,.s,.Z] (k:=?_);refine AW.ret (cz (.cons (.ja 2 77 rfl rfl rfl xe o8 (by decide)) .nil) ?_);refine⟨λi=>if i=0 then 18 else if i=1 then 22 else 26,rfl,ak rfl,?_⟩;intro r hr;simp only[mem_cons,not_mem_nil,or_false]at hr;rcases hr with rfl|rfl|rfl<;>exact⟨by simp,aq rfl⟩
theorem rA(a:List dD)(hw:Mk.wt a≤1048576):bf Tryz.prog 29 [.h aa []] [.rt aa .ro (tr a)] (jY (.h 0 []) [(0, .row,tr a)]):=by
 refine ob Tryz.func29 Tryz.ntmps29 ?_;have hw2:a.length+lN Mk.wt a≤1048576:=hw;refine go [.R,.a,.Z,.R,.m,.h,.N] (k:=?_);refine sp (aK.makeSlice rfl (by decide) (by decide) rfl rfl (by omega) (by omega) (by omega)) ?_;refine go [.N,.a,.Z,.R2,.a,.Z] (k:=?_);refine AW.block ?_;refine AW.bc (L':=[.sl 4 (.v (iv (0:Nat))), .sl 3 (.h 7 []), .sl 0 (.h aa []), .rt 7 .row (fR (0:Nat) a.length (λj=>a.getD j En.ab) λ_=>En.ab), .rt aa .ro (tr a)]) (ar.aZ ⟨rfl,rfl,rfl,⟨_,rfl,(ew rfl (λc hc=>match c,hc with|0,_=>au|1,_=>au|2,_=>au|3,_=>au|4,_=>au|5,_=>bS|6,_=>bS|7,_=>bS|8,_=>au|9,_=>au|c+10,hc=>absurd hc (by simp only[En.n];omega)))⟩,Rf rfl,trivial⟩ rfl rfl) ?_;refine AW.loop (λi:ei a.length=>[.sl 4 (.v (iv i.k)), .sl 3 (.h 7 []), .sl 0 (.h aa []), .rt 7 .row (fR i.k a.length (λj=>a.getD j En.ab) λ_=>En.ab), .rt aa .ro (tr a)]) (λi=>a.length-i.k) ⟨0,zero_le _⟩ ?_;intro i;have hle:=i.le;refine go [.R2,.m,.N,.m,.h,.b,.Z] (k:=?_);refine cd (λc1=>?_) λc1=>?_
 ·try simp only[ai]at c1
  have hwk:=ga (w:=Mk.wt) (d:=En.ab) (l:=a) (i:=i.k) (by omega);refine jd (AW.seq (AW.block (AW.region ?_)));refine go [.m,.N,.m,.m,.m,.N,.i,.G] (k:=?_);refine sp (aK.bV rfl (by decide) Tryz.call103 rfl rfl (tT _ (by first|omega|(simp only[Int.toNat_natCast];omega)|(simp only[Mk.wt]at *; omega))) (ak rfl) rfl rfl) ?_;refine go [.N,.i,.s,.Z,.R1,.m,.N,.b,.a,.Z] (k:=?_);refine⟨⟨i.k+1,by omega⟩,ar.aZ ⟨fe,rfl,rfl,⟨_,rfl,eU (λi c hi=>by simp only[aj,hi,false_and,if_false];rfl) (λc hc=>match c,hc with|0,_=>(by simp only[aj,eq_self,and_true,and_false,Nat.reduceEqDiff,if_true,if_false];exact au)|1,_=>(by simp only[aj,eq_self,and_true,and_false,Nat.reduceEqDiff,if_true,if_false];exact au)|2,_=>(by simp only[aj,eq_self,and_true,and_false,Nat.reduceEqDiff,if_true,if_false];exact au)|3,_=>(by simp only[aj,eq_self,and_true,and_false,Nat.reduceEqDiff,if_true,if_false];exact au)|4,_=>(by simp only[aj,eq_self,and_true,and_false,Nat.reduceEqDiff,if_true,if_false];exact au)|5,_=>(by simp only[aj,eq_self,and_true,and_false,Nat.reduceEqDiff,if_true,if_false];exact au)|6,_=>(by simp only[aj,eq_self,and_true,and_false,Nat.reduceEqDiff,if_true,if_false];exact au)|7,_=>(by simp only[aj,eq_self,and_true,and_false,Nat.reduceEqDiff,if_true,if_false];exact au)|8,_=>(by simp only[aj,eq_self,and_true,and_false,Nat.reduceEqDiff,if_true,if_false];exact au)|9,_=>(by simp only[aj,eq_self,and_true,and_false,Nat.reduceEqDiff,if_true,if_false];exact au)|c+10,hc=>absurd hc (by simp only[En.n];omega))⟩,Rf rfl,trivial⟩ rfl rfl,?_⟩;show a.length-(i.k+1)<a.length-i.k;omega
 try simp only[ai]at c1
 refine AW.exit ?_;dsimp only[aJ,ay,reduceIte];refine go [.R,.m,.N,.a,.Z] (k:=?_);refine AW.bc (L':=[.rt 7 .row (tr a), .sl 2 (.h 7 [])]) (ar.aZ ⟨⟨_,rfl,eP (by omega) rfl (λ_ _=>rfl)⟩,rfl,trivial⟩ rfl rfl) ?_;refine aM 2 ?_;refine⟨λ_=>7,rfl,ak rfl,?_⟩;intro r hr;cases List.mem_singleton.1 hr;exact⟨by simp,aq rfl⟩
theorem mM(a:List (List Int))(hw:Mk.wt a≤1048576):bf Tryz.prog 104 [.h aa []] [.rt aa .ro (tr a)] (jY (.h 0 []) [(0, .row,tr a)]):=by
 refine ob Tryz.func104 Tryz.ntmps104 ?_;have hw2:a.length+lN Mk.wt a≤1048576:=hw;refine go [.R,.a,.Z,.R,.m,.h,.N] (k:=?_);refine sp (aK.makeSlice rfl (by decide) (by decide) rfl rfl (by omega) (by omega) (by omega)) ?_;refine go [.N,.a,.Z,.R2,.a,.Z] (k:=?_);refine AW.block ?_;refine AW.bc (L':=[.sl 4 (.v (iv (0:Nat))), .sl 3 (.h 7 []), .sl 0 (.h aa []), .rt 7 .row (fR (0:Nat) a.length (λj=>a.getD j En.ab) λ_=>En.ab), .rt aa .ro (tr a)]) (ar.aZ ⟨rfl,rfl,rfl,⟨_,rfl,(ew rfl (λc hc=>match c,hc with|0,_=>bS|c+1,hc=>absurd hc (by simp only[En.n];omega)))⟩,Rf rfl,trivial⟩ rfl rfl) ?_;refine AW.loop (λi:ei a.length=>[.sl 4 (.v (iv i.k)), .sl 3 (.h 7 []), .sl 0 (.h aa []), .rt 7 .row (fR i.k a.length (λj=>a.getD j En.ab) λ_=>En.ab), .rt aa .ro (tr a)]) (λi=>a.length-i.k) ⟨0,zero_le _⟩ ?_;intro i;have hle:=i.le;refine go [.R2,.m,.N,.m,.h,.b,.Z] (k:=?_);refine cd (λc1=>?_) λc1=>?_
 ·try simp only[ai]at c1
  have hwk:=ga (w:=Mk.wt) (d:=En.ab) (l:=a) (i:=i.k) (by omega);refine jd (AW.seq (AW.block (AW.region ?_)));refine go [.m,.N,.m,.m,.m,.N,.i,.l] (k:=?_);refine sp (aK.bV rfl (by decide) Tryz.call30 rfl rfl (eX _ (by first|omega|(simp only[Int.toNat_natCast];omega)|(simp only[Mk.wt]at *; omega))) (ak rfl) rfl rfl) ?_;refine go [.N,.i,.s,.Z,.R1,.m,.N,.b,.a,.Z] (k:=?_);refine⟨⟨i.k+1,by omega⟩,ar.aZ ⟨fe,rfl,rfl,⟨_,rfl,eU (λi c hi=>by simp only[aj,hi,false_and,if_false];rfl) (λc hc=>match c,hc with|0,_=>(by simp only[aj,eq_self,and_true,and_false,Nat.reduceEqDiff,if_true,if_false];exact au)|c+1,hc=>absurd hc (by simp only[En.n];omega))⟩,Rf rfl,trivial⟩ rfl rfl,?_⟩;show a.length-(i.k+1)<a.length-i.k;omega
 try simp only[ai]at c1
 refine AW.exit ?_;dsimp only[aJ,ay,reduceIte];refine go [.R,.m,.N,.a,.Z] (k:=?_);refine AW.bc (L':=[.rt 7 .row (tr a), .sl 2 (.h 7 [])]) (ar.aZ ⟨⟨_,rfl,eP (by omega) rfl (λ_ _=>rfl)⟩,rfl,trivial⟩ rfl rfl) ?_;refine aM 2 ?_;refine⟨λ_=>7,rfl,ak rfl,?_⟩;intro r hr;cases List.mem_singleton.1 hr;exact⟨by simp,aq rfl⟩
theorem tv(a:gN)(hw:Mk.wt a≤1048576):bf Tryz.prog 31 [.g [.h aa []]] [.rt aa .ro (tr a.aU)] (jY (.g [.h 0 []]) [(0, .row,tr a.aU)]):=by
 refine ob Tryz.func31 Tryz.ntmps31 ?_;refine go [.R,.B,.N,.A,.Z,.R,.A,.Z,.R,.f,.N,.l] (k:=?_);refine sp (aK.bV rfl (by decide) Tryz.call104 rfl rfl (mM _ (by first|omega|(simp only[Int.toNat_natCast];omega)|(simp only[Mk.wt]at *; omega))) (ak rfl) rfl rfl) ?_;refine go [.N,.f,.s,.Z,.R,.G,.N,.s,.Z] (k:=?_);refine AW.ret (cz (.cons (.ja 2 43 rfl rfl rfl AP zp (by decide)) .nil) ?_);refine⟨λ_=>6,rfl,ak rfl,?_⟩;intro r hr;cases List.mem_singleton.1 hr;exact⟨by simp,aq rfl⟩
theorem uD(a:aw):bf Tryz.prog 105 [.g [.v (iv a.Id), .v (iv a.Kind), .v (iv a.Target), .v (iv a.mi), .v (iv a.gK)]] [] (jY (.g [.v (iv a.Id), .v (iv a.Kind), .v (iv a.Target), .v (iv a.mi), .v (iv a.gK)]) []):=by
 refine ob Tryz.func105 Tryz.ntmps105 ?_;refine go [.R,.B,.N,.A,.Z,.R,.A,.Z,.R,.f,.N,.l,.f,.s,.Z,.R,.f,.N,.l,.f,.s,.Z,.R,.f,.N,.l,.f,.s,.Z,.R,.f,.N,.l,.f,.s,.Z,.R,.f,.N,.l,.f,.s,.Z,.R,.G,.N,.s,.Z] (k:=?_);refine AW.ret (cz (.cons (.ja 2 72 rfl rfl rfl gW dq (by decide)) .nil) ?_);refine⟨λ_=>0,rfl,ak rfl,?_⟩;intro r hr;cases hr
theorem tS(a:List aw)(hw:Mk.wt a≤1048576):bf Tryz.prog 32 [.h aa []] [.rt aa .ro (tr a)] (jY (.h 0 []) [(0, .row,tr a)]):=by
 refine ob Tryz.func32 Tryz.ntmps32 ?_;have hw2:a.length+lN Mk.wt a≤1048576:=hw;refine go [.R,.a,.Z,.R,.m,.h,.N] (k:=?_);refine sp (aK.makeSlice rfl (by decide) (by decide) rfl rfl (by omega) (by omega) (by omega)) ?_;refine go [.N,.a,.Z,.R2,.a,.Z] (k:=?_);refine AW.block ?_;refine AW.bc (L':=[.sl 4 (.v (iv (0:Nat))), .sl 3 (.h 7 []), .sl 0 (.h aa []), .rt 7 .row (fR (0:Nat) a.length (λj=>a.getD j En.ab) λ_=>En.ab), .rt aa .ro (tr a)]) (ar.aZ ⟨rfl,rfl,rfl,⟨_,rfl,(ew rfl (λc hc=>match c,hc with|0,_=>au|1,_=>au|2,_=>au|3,_=>au|4,_=>au|c+5,hc=>absurd hc (by simp only[En.n];omega)))⟩,Rf rfl,trivial⟩ rfl rfl) ?_;refine AW.loop (λi:ei a.length=>[.sl 4 (.v (iv i.k)), .sl 3 (.h 7 []), .sl 0 (.h aa []), .rt 7 .row (fR i.k a.length (λj=>a.getD j En.ab) λ_=>En.ab), .rt aa .ro (tr a)]) (λi=>a.length-i.k) ⟨0,zero_le _⟩ ?_;intro i;have hle:=i.le;refine go [.R2,.m,.N,.m,.h,.b,.Z] (k:=?_);refine cd (λc1=>?_) λc1=>?_
 ·try simp only[ai]at c1
  have hwk:=ga (w:=Mk.wt) (d:=En.ab) (l:=a) (i:=i.k) (by omega);refine jd (AW.seq (AW.block (AW.region ?_)));refine go [.m,.N,.m,.m,.m,.N,.i,.G] (k:=?_);refine sp (aK.bV rfl (by decide) Tryz.call105 rfl rfl (uD _) (ak rfl) rfl rfl) ?_;refine go [.N,.i,.s,.Z,.R1,.m,.N,.b,.a,.Z] (k:=?_);refine⟨⟨i.k+1,by omega⟩,ar.aZ ⟨fe,rfl,rfl,⟨_,rfl,eU (λi c hi=>by simp only[aj,hi,false_and,if_false];rfl) (λc hc=>match c,hc with|0,_=>(by simp only[aj,eq_self,and_true,and_false,Nat.reduceEqDiff,if_true,if_false];exact au)|1,_=>(by simp only[aj,eq_self,and_true,and_false,Nat.reduceEqDiff,if_true,if_false];exact au)|2,_=>(by simp only[aj,eq_self,and_true,and_false,Nat.reduceEqDiff,if_true,if_false];exact au)|3,_=>(by simp only[aj,eq_self,and_true,and_false,Nat.reduceEqDiff,if_true,if_false];exact au)|4,_=>(by simp only[aj,eq_self,and_true,and_false,Nat.reduceEqDiff,if_true,if_false];exact au)|c+5,hc=>absurd hc (by simp only[En.n];omega))⟩,Rf rfl,trivial⟩ rfl rfl,?_⟩;show a.length-(i.k+1)<a.length-i.k;omega
 try simp only[ai]at c1
 refine AW.exit ?_;dsimp only[aJ,ay,reduceIte];refine go [.R,.m,.N,.a,.Z] (k:=?_);refine AW.bc (L':=[.rt 7 .row (tr a), .sl 2 (.h 7 [])]) (ar.aZ ⟨⟨_,rfl,eP (by omega) rfl (λ_ _=>rfl)⟩,rfl,trivial⟩ rfl rfl) ?_;refine aM 2 ?_;refine⟨λ_=>7,rfl,ak rfl,?_⟩;intro r hr;cases List.mem_singleton.1 hr;exact⟨by simp,aq rfl⟩
theorem sQ(a:dp)(hw:Mk.wt a≤1048576):bf Tryz.prog 106 [.g [.v (iv a.Id), .h aa []]] [.rt aa .ro (tr a.bn)] (jY (.g [.v (iv a.Id), .h 0 []]) [(0, .row,tr a.bn)]):=by
 refine ob Tryz.func106 Tryz.ntmps106 ?_;refine go [.R,.B,.N,.A,.Z,.R,.A,.Z,.R,.f,.N,.l,.f,.s,.Z,.R,.f,.N,.l] (k:=?_);refine sp (aK.bV rfl (by decide) Tryz.call104 rfl rfl (mM _ (by first|omega|(simp only[Int.toNat_natCast];omega)|(simp only[Mk.wt]at *; omega))) (ak rfl) rfl rfl) ?_;refine go [.N,.f,.s,.Z,.R,.G,.N,.s,.Z] (k:=?_);refine AW.ret (cz (.cons (.ja 2 83 rfl rfl rfl xZ ng (by decide)) .nil) ?_);refine⟨λ_=>9,rfl,ak rfl,?_⟩;intro r hr;cases List.mem_singleton.1 hr;exact⟨by simp,aq rfl⟩
theorem ry(a:List dp)(hw:Mk.wt a≤1048576):bf Tryz.prog 33 [.h aa []] [.rt aa .ro (tr a)] (jY (.h 0 []) [(0, .row,tr a)]):=by
 refine ob Tryz.func33 Tryz.ntmps33 ?_;have hw2:a.length+lN Mk.wt a≤1048576:=hw;refine go [.R,.a,.Z,.R,.m,.h,.N] (k:=?_);refine sp (aK.makeSlice rfl (by decide) (by decide) rfl rfl (by omega) (by omega) (by omega)) ?_;refine go [.N,.a,.Z,.R2,.a,.Z] (k:=?_);refine AW.block ?_;refine AW.bc (L':=[.sl 4 (.v (iv (0:Nat))), .sl 3 (.h 7 []), .sl 0 (.h aa []), .rt 7 .row (fR (0:Nat) a.length (λj=>a.getD j En.ab) λ_=>En.ab), .rt aa .ro (tr a)]) (ar.aZ ⟨rfl,rfl,rfl,⟨_,rfl,(ew rfl (λc hc=>match c,hc with|0,_=>au|1,_=>bS|c+2,hc=>absurd hc (by simp only[En.n];omega)))⟩,Rf rfl,trivial⟩ rfl rfl) ?_;refine AW.loop (λi:ei a.length=>[.sl 4 (.v (iv i.k)), .sl 3 (.h 7 []), .sl 0 (.h aa []), .rt 7 .row (fR i.k a.length (λj=>a.getD j En.ab) λ_=>En.ab), .rt aa .ro (tr a)]) (λi=>a.length-i.k) ⟨0,zero_le _⟩ ?_;intro i;have hle:=i.le;refine go [.R2,.m,.N,.m,.h,.b,.Z] (k:=?_);refine cd (λc1=>?_) λc1=>?_
 ·try simp only[ai]at c1
  have hwk:=ga (w:=Mk.wt) (d:=En.ab) (l:=a) (i:=i.k) (by omega);refine jd (AW.seq (AW.block (AW.region ?_)));refine go [.m,.N,.m,.m,.m,.N,.i,.G] (k:=?_);refine sp (aK.bV rfl (by decide) Tryz.call106 rfl rfl (sQ _ (by first|omega|(simp only[Int.toNat_natCast];omega)|(simp only[Mk.wt]at *; omega))) (ak rfl) rfl rfl) ?_;refine go [.N,.i,.s,.Z,.R1,.m,.N,.b,.a,.Z] (k:=?_);refine⟨⟨i.k+1,by omega⟩,ar.aZ ⟨fe,rfl,rfl,⟨_,rfl,eU (λi c hi=>by simp only[aj,hi,false_and,if_false];rfl) (λc hc=>match c,hc with|0,_=>(by simp only[aj,eq_self,and_true,and_false,Nat.reduceEqDiff,if_true,if_false];exact au)|1,_=>(by simp only[aj,eq_self,and_true,and_false,Nat.reduceEqDiff,if_true,if_false];exact au)|c+2,hc=>absurd hc (by simp only[En.n];omega))⟩,Rf rfl,trivial⟩ rfl rfl,?_⟩;show a.length-(i.k+1)<a.length-i.k;omega
 try simp only[ai]at c1
 refine AW.exit ?_;dsimp only[aJ,ay,reduceIte];refine go [.R,.m,.N,.a,.Z] (k:=?_);refine AW.bc (L':=[.rt 7 .row (tr a), .sl 2 (.h 7 [])]) (ar.aZ ⟨⟨_,rfl,eP (by omega) rfl (λ_ _=>rfl)⟩,rfl,trivial⟩ rfl rfl) ?_;refine aM 2 ?_;refine⟨λ_=>7,rfl,ak rfl,?_⟩;intro r hr;cases List.mem_singleton.1 hr;exact⟨by simp,aq rfl⟩
theorem uL(a:cm)(hw:Mk.wt a≤1048576):bf Tryz.prog 107 [.g [.v (iv a.Name), .h aa []]] [.rt aa .ro (tr a.Data)] (jY (.g [.v (iv a.Name), .h 0 []]) [(0, .row,tr a.Data)]):=by
 refine ob Tryz.func107 Tryz.ntmps107 ?_;refine go [.R,.B,.N,.A,.Z,.R,.A,.Z,.R,.f,.N,.l,.f,.s,.Z,.R,.f,.N,.l] (k:=?_);refine sp (aK.bV rfl (by decide) Tryz.call30 rfl rfl (eX _ (by first|omega|(simp only[Int.toNat_natCast];omega)|(simp only[Mk.wt]at *; omega))) (ak rfl) rfl rfl) ?_;refine go [.N,.f,.s,.Z,.R,.G,.N,.s,.Z] (k:=?_);refine AW.ret (cz (.cons (.ja 2 96 rfl rfl rfl gS cX (by decide)) .nil) ?_);refine⟨λ_=>9,rfl,ak rfl,?_⟩;intro r hr;cases List.mem_singleton.1 hr;exact⟨by simp,aq rfl⟩
theorem rN(a:List cm)(hw:Mk.wt a≤1048576):bf Tryz.prog 34 [.h aa []] [.rt aa .ro (tr a)] (jY (.h 0 []) [(0, .row,tr a)]):=by
 refine ob Tryz.func34 Tryz.ntmps34 ?_;have hw2:a.length+lN Mk.wt a≤1048576:=hw;refine go [.R,.a,.Z,.R,.m,.h,.N] (k:=?_);refine sp (aK.makeSlice rfl (by decide) (by decide) rfl rfl (by omega) (by omega) (by omega)) ?_;refine go [.N,.a,.Z,.R2,.a,.Z] (k:=?_);refine AW.block ?_;refine AW.bc (L':=[.sl 4 (.v (iv (0:Nat))), .sl 3 (.h 7 []), .sl 0 (.h aa []), .rt 7 .row (fR (0:Nat) a.length (λj=>a.getD j En.ab) λ_=>En.ab), .rt aa .ro (tr a)]) (ar.aZ ⟨rfl,rfl,rfl,⟨_,rfl,(ew rfl (λc hc=>match c,hc with|0,_=>au|1,_=>bS|c+2,hc=>absurd hc (by simp only[En.n];omega)))⟩,Rf rfl,trivial⟩ rfl rfl) ?_;refine AW.loop (λi:ei a.length=>[.sl 4 (.v (iv i.k)), .sl 3 (.h 7 []), .sl 0 (.h aa []), .rt 7 .row (fR i.k a.length (λj=>a.getD j En.ab) λ_=>En.ab), .rt aa .ro (tr a)]) (λi=>a.length-i.k) ⟨0,zero_le _⟩ ?_;intro i;have hle:=i.le;refine go [.R2,.m,.N,.m,.h,.b,.Z] (k:=?_);refine cd (λc1=>?_) λc1=>?_
 ·try simp only[ai]at c1
  have hwk:=ga (w:=Mk.wt) (d:=En.ab) (l:=a) (i:=i.k) (by omega);refine jd (AW.seq (AW.block (AW.region ?_)));refine go [.m,.N,.m,.m,.m,.N,.i,.G] (k:=?_);refine sp (aK.bV rfl (by decide) Tryz.call107 rfl rfl (uL _ (by first|omega|(simp only[Int.toNat_natCast];omega)|(simp only[Mk.wt]at *; omega))) (ak rfl) rfl rfl) ?_;refine go [.N,.i,.s,.Z,.R1,.m,.N,.b,.a,.Z] (k:=?_);refine⟨⟨i.k+1,by omega⟩,ar.aZ ⟨fe,rfl,rfl,⟨_,rfl,eU (λi c hi=>by simp only[aj,hi,false_and,if_false];rfl) (λc hc=>match c,hc with|0,_=>(by simp only[aj,eq_self,and_true,and_false,Nat.reduceEqDiff,if_true,if_false];exact au)|1,_=>(by simp only[aj,eq_self,and_true,and_false,Nat.reduceEqDiff,if_true,if_false];exact au)|c+2,hc=>absurd hc (by simp only[En.n];omega))⟩,Rf rfl,trivial⟩ rfl rfl,?_⟩;show a.length-(i.k+1)<a.length-i.k;omega
 try simp only[ai]at c1
 refine AW.exit ?_;dsimp only[aJ,ay,reduceIte];refine go [.R,.m,.N,.a,.Z] (k:=?_);refine AW.bc (L':=[.rt 7 .row (tr a), .sl 2 (.h 7 [])]) (ar.aZ ⟨⟨_,rfl,eP (by omega) rfl (λ_ _=>rfl)⟩,rfl,trivial⟩ rfl rfl) ?_;refine aM 2 ?_;refine⟨λ_=>7,rfl,ak rfl,?_⟩;intro r hr;cases List.mem_singleton.1 hr;exact⟨by simp,aq rfl⟩
theorem ki(a:bH)(hw:Mk.wt a≤1048576):bf Tryz.prog 8 [.g [.v (iv a.Next), .v (iv a.bF), .h aa [], .h (aa+1) [], .h (aa+2) [], .h (aa+3) [], .h (aa+4) [], .h (aa+5) [], .h (aa+6) [], .h (aa+7) [], .h (aa+8) []]] [.rt aa .ro (tr a.aV), .rt (aa+1) .ro (tr a.ah), .rt (aa+2) .ro (tr a.fb), .rt (aa+3) .ro (tr a.Heap.aU), .rt (aa+4) .ro (tr a.ax), .rt (aa+5) .ro (tr a.ao), .rt (aa+6) .ro (tr a.aC), .rt (aa+7) .ro (tr a.aR), .rt (aa+8) .ro (tr a.Out)] (jY (.g [.v (iv a.Next), .v (iv a.bF), .h 0 [], .h 1 [], .h 2 [], .h 3 [], .h 4 [], .h 5 [], .h 6 [], .h 7 [], .h 8 []]) [(0, .row,tr a.aV),(1, .row,tr a.ah),(2, .row,tr a.fb),(3, .row,tr a.Heap.aU),(4, .row,tr a.ax),(5, .row,tr a.ao),(6, .row,tr a.aC),(7, .row,tr a.aR),(8, .row,tr a.Out)]):=by
 refine ob Tryz.func8 Tryz.ntmps8 ?_;refine go [.R,.B,.N,.A,.Z,.R,.A,.Z,.R,.f,.N,.l,.f,.s,.Z,.R,.f,.N,.l,.f,.s,.Z,.R,.f,.N,.l] (k:=?_);refine sp (aK.bV rfl (by decide) Tryz.call28 rfl rfl (tI _ (by first|omega|(simp only[Int.toNat_natCast];omega)|(simp only[Mk.wt]at *; omega))) (ak rfl) rfl rfl) ?_;refine go [.N,.f,.s,.Z,.R,.f,.N,.l] (k:=?_);refine sp (aK.bV rfl (by decide) Tryz.call29 rfl rfl (rA _ (by first|omega|(simp only[Int.toNat_natCast];omega)|(simp only[Mk.wt]at *; omega))) (ak rfl) rfl rfl) ?_;refine go [.N,.f,.s,.Z,.R,.f,.N,.l] (k:=?_);refine sp (aK.bV rfl (by decide) Tryz.call30 rfl rfl (eX _ (by first|omega|(simp only[Int.toNat_natCast];omega)|(simp only[Mk.wt]at *; omega))) (ak rfl) rfl rfl) ?_;refine go [.N,.f,.s,.Z,.R,.f,.N,.G] (k:=?_);refine sp (aK.bV rfl (by decide) Tryz.call31 rfl rfl (tv _ (by first|omega|(simp only[Int.toNat_natCast];omega)|(simp only[Mk.wt]at *; omega))) (ak rfl) rfl rfl) ?_;refine go [.N,.f,.s,.Z,.R,.f,.N,.l] (k:=?_);refine sp (aK.bV rfl (by decide) Tryz.call32 rfl rfl (tS _ (by first|omega|(simp only[Int.toNat_natCast];omega)|(simp only[Mk.wt]at *; omega))) (ak rfl) rfl rfl) ?_;refine go [.N,.f,.s,.Z,.R,.f,.N,.l] (k:=?_);refine sp (aK.bV rfl (by decide) Tryz.call33 rfl rfl (ry _ (by first|omega|(simp only[Int.toNat_natCast];omega)|(simp only[Mk.wt]at *; omega))) (ak rfl) rfl rfl) ?_;refine go [.N,.f,.s,.Z,.R,.f,.N,.l] (k:=?_);refine sp (aK.bV rfl (by decide) Tryz.call34 rfl rfl (rN _ (by first|omega|(simp only[Int.toNat_natCast];omega)|(simp only[Mk.wt]at *; omega))) (ak rfl) rfl rfl) ?_;refine go [.N,.f,.s,.Z,.R,.f,.N,.l] (k:=?_);refine sp (aK.bV rfl (by decide) Tryz.call30 rfl rfl (eX _ (by first|omega|(simp only[Int.toNat_natCast];omega)|(simp only[Mk.wt]at *; omega))) (ak rfl) rfl rfl) ?_;refine go [.N,.f,.s,.Z,.R,.f,.N,.l] (k:=?_);refine sp (aK.bV rfl (by decide) Tryz.call30 rfl rfl (eX _ (by first|omega|(simp only[Int.toNat_natCast];omega)|(simp only[Mk.wt]at *; omega))) (ak rfl) rfl rfl) ?_;refine go [.N,.f,.s,.Z,.R,.G,.N,.s,.Z] (k:=?_);refine AW.ret (cz (.cons (.ja 2 46 rfl rfl rfl yo yD (by decide)) .nil) ?_);refine⟨λi=>if i=0 then 12 else if i=1 then 16 else if i=2 then 20 else if i=3 then 24 else if i=4 then 28 else if i=5 then 32 else if i=6 then 36 else if i=7 then 40 else 44,rfl,ak rfl,?_⟩;intro r hr;simp only[mem_cons,not_mem_nil,or_false]at hr;rcases hr with rfl|rfl|rfl|rfl|rfl|rfl|rfl|rfl|rfl<;>exact⟨by simp,aq rfl⟩
theorem wF(a b:dE):bf Tryz.prog 178 [.g [.v (iv a.Op), .v (iv a.A), .v (iv a.B), .v (iv a.C)], .g [.v (iv b.Op), .v (iv b.A), .v (iv b.B), .v (iv b.C)]] [] (λy _=>y= .v (.bool (decide (a=b)))):=by
 refine ob Tryz.func178 Tryz.ntmps178 ?_;refine go [.R,.B,.N,.B,.N,.a,.Z,.R2,.f,.l,.N,.f,.l,.b,.Z] (k:=?_);refine cd (λc1=>?_) λc1=>?_
 ·try simp only[ai]at c1
  refine go [.R,.a,.Z] (k:=?_);refine aM 4 ?_;simp only[bj,aA,reduceIte,Nat.reduceEqDiff];cases a;cases b;simp_all
 try simp only[ai]at c1
 refine jd (bP ?_);refine go [.f,.N,.l,.f,.l,.N,.b,.Z] (k:=?_);refine cd (λc2=>?_) λc2=>?_
 ·try simp only[ai]at c2
  refine go [.R,.a,.Z] (k:=?_);refine aM 4 ?_;simp only[bj,aA,reduceIte,Nat.reduceEqDiff];cases a;cases b;simp_all
 try simp only[ai]at c2
 refine jd (bP ?_);refine go [.f,.N,.l,.f,.l,.N,.b,.Z] (k:=?_);refine cd (λc3=>?_) λc3=>?_
 ·try simp only[ai]at c3
  refine go [.R,.a,.Z] (k:=?_);refine aM 4 ?_;simp only[bj,aA,reduceIte,Nat.reduceEqDiff];cases a;cases b;simp_all
 try simp only[ai]at c3
 refine jd (bP ?_);refine go [.f,.N,.l,.f,.l,.N,.b,.Z] (k:=?_);refine cd (λc4=>?_) λc4=>?_
 ·try simp only[ai]at c4
  refine go [.R,.a,.Z] (k:=?_);refine aM 4 ?_;simp only[bj,aA,reduceIte,Nat.reduceEqDiff];cases a;cases b;simp_all
 try simp only[ai]at c4
 refine go [.J,.R,.a,.Z] (k:=?_);refine aM 4 ?_;simp only[bj,aA,reduceIte,Nat.reduceEqDiff];cases a;cases b;simp_all
theorem ui(a b:List dE):bf Tryz.prog 124 [.h aa [], .h (aa+1) []] [.rt aa .ro (tr a), .rt (aa+1) .ro (tr b)] (λy _=>y= .v (.bool (decide (a=b)))):=by
 refine ob Tryz.func124 Tryz.ntmps124 ?_;refine AW.len aa [] rfl (by simp[ck]) rfl (λhl=>?_);refine AW.len (aa+1) [] rfl (by simp[ck]) rfl (λhl2=>?_);refine go [.R,.a,.Z,.R2,.m,.h,.N,.m,.h,.b,.Z] (k:=?_);refine cd (λc1=>?_) λc1=>?_
 ·try simp only[ai]at c1
  refine go [.R,.a,.Z] (k:=?_);refine aM 4 ?_;simp only[bj,aA,reduceIte,Nat.reduceEqDiff];rw[decide_eq_false (show a≠b from fm (by omega))]
 try simp only[ai]at c1
 refine jd (bP ?_);refine go [.a,.Z] (k:=?_);refine AW.block ?_;refine AW.bw (λi:iz a b=>[.sl 5 (.v (iv i.k)), .sl 0 (.h aa []), .sl 1 (.h (aa+1) []), .rt aa .ro (tr a), .rt (aa+1) .ro (tr b)]) (λi=>a.length-i.k) ⟨0,zero_le _,rfl⟩ (ws) ?_;intro i;have hle:=i.le;refine go [.R2,.m,.N,.m,.h,.b,.Z] (k:=?_);refine cd (λc2=>?_) λc2=>?_
 ·try simp only[ai]at c2
  refine jd (AW.seq (AW.block (AW.seq ?_)));refine go [.D [0,1,2,3,4,5,6,7,9],.t 0,.m,.N,.t 1,.m,.t 2,.i,.t 3,.G,.N,.t 4,.m,.t 5,.m,.t 6,.i,.N,.t 7,.G] (k:=?_);refine a1 8 [] [7,3,6,2,5,4,1,0] rfl rfl (aK.aL rfl (by decide) Tryz.call178 rfl rfl (wF _ _)) ?_;refine go [.N,.t 9,.n,.Z] (k:=?_);refine cd (λc3=>?_) λc3=>?_
  ·try simp only[ai]at c3
   refine go [.R,.a,.Z] (k:=?_);refine aM 4 ?_;simp only[bj,aA,reduceIte,Nat.reduceEqDiff];rw[decide_eq_false (show a≠b from i.stop En.ab (by simpa using c3))]
  try simp only[ai]at c3
  refine go [.J,.R1,.m,.N,.b,.a,.Z] (k:=?_);refine⟨⟨i.k+1,by omega,i.next En.ab (by omega) (by omega) (by simpa using c3)⟩,ws,?_⟩;show a.length-(i.k+1)<a.length-i.k;omega
 try simp only[ai]at c2
 refine AW.exit ?_;dsimp only[aJ,ay,reduceIte];refine go [.R,.a,.Z] (k:=?_);refine aM 4 ?_;simp only[bj,aA,reduceIte,Nat.reduceEqDiff];rw[decide_eq_true (show a=b from i.full (by omega) (by omega))]
theorem tR(a b:List (List dE)):bf Tryz.prog 53 [.h aa [], .h (aa+1) []] [.rt aa .ro (tr a), .rt (aa+1) .ro (tr b)] (λy _=>y= .v (.bool (decide (a=b)))):=by
 refine ob Tryz.func53 Tryz.ntmps53 ?_;refine AW.len aa [] rfl (by simp[ck]) rfl (λhl=>?_);refine AW.len (aa+1) [] rfl (by simp[ck]) rfl (λhl2=>?_);refine go [.R,.a,.Z,.R2,.m,.h,.N,.m,.h,.b,.Z] (k:=?_);refine cd (λc1=>?_) λc1=>?_
 ·try simp only[ai]at c1
  refine go [.R,.a,.Z] (k:=?_);refine aM 4 ?_;simp only[bj,aA,reduceIte,Nat.reduceEqDiff];rw[decide_eq_false (show a≠b from fm (by omega))]
 try simp only[ai]at c1
 refine jd (bP ?_);refine go [.a,.Z] (k:=?_);refine AW.block ?_;refine AW.bw (λi:iz a b=>[.sl 5 (.v (iv i.k)), .sl 0 (.h aa []), .sl 1 (.h (aa+1) []), .rt aa .ro (tr a), .rt (aa+1) .ro (tr b)]) (λi=>a.length-i.k) ⟨0,zero_le _,rfl⟩ (ws) ?_;intro i;have hle:=i.le;refine go [.R2,.m,.N,.m,.h,.b,.Z] (k:=?_);refine cd (λc2=>?_) λc2=>?_
 ·try simp only[ai]at c2
  refine jd (AW.seq (AW.block (AW.seq ?_)));refine go [.D [0,1,2,3,4,5,6,7,9],.t 0,.m,.N,.t 1,.m,.t 2,.i,.t 3,.l,.N,.t 4,.m,.t 5,.m,.t 6,.i,.N,.t 7,.l] (k:=?_);refine a1 8 [] [7,3,6,2,5,4,1,0] rfl rfl (aK.aL rfl (by decide) Tryz.call124 rfl rfl (ui _ _)) ?_;refine go [.N,.t 9,.n,.Z] (k:=?_);refine cd (λc3=>?_) λc3=>?_
  ·try simp only[ai]at c3
   refine go [.R,.a,.Z] (k:=?_);refine aM 4 ?_;simp only[bj,aA,reduceIte,Nat.reduceEqDiff];rw[decide_eq_false (show a≠b from i.stop En.ab (by simpa using c3))]
  try simp only[ai]at c3
  refine go [.J,.R1,.m,.N,.b,.a,.Z] (k:=?_);refine⟨⟨i.k+1,by omega,i.next En.ab (by omega) (by omega) (by simpa using c3)⟩,ws,?_⟩;show a.length-(i.k+1)<a.length-i.k;omega
 try simp only[ai]at c2
 refine AW.exit ?_;dsimp only[aJ,ay,reduceIte];refine go [.R,.a,.Z] (k:=?_);refine aM 4 ?_;simp only[bj,aA,reduceIte,Nat.reduceEqDiff];rw[decide_eq_true (show a=b from i.full (by omega) (by omega))]
theorem uo(a b:aw):bf Tryz.prog 126 [.g [.v (iv a.Id), .v (iv a.Kind), .v (iv a.Target), .v (iv a.mi), .v (iv a.gK)], .g [.v (iv b.Id), .v (iv b.Kind), .v (iv b.Target), .v (iv b.mi), .v (iv b.gK)]] [] (λy _=>y= .v (.bool (decide (a=b)))):=by
 refine ob Tryz.func126 Tryz.ntmps126 ?_;refine go [.R,.B,.N,.B,.N,.a,.Z,.R2,.f,.l,.N,.f,.l,.b,.Z] (k:=?_);refine cd (λc1=>?_) λc1=>?_
 ·try simp only[ai]at c1
  refine go [.R,.a,.Z] (k:=?_);refine aM 4 ?_;simp only[bj,aA,reduceIte,Nat.reduceEqDiff];cases a;cases b;simp_all
 try simp only[ai]at c1
 refine jd (bP ?_);refine go [.f,.N,.l,.f,.l,.N,.b,.Z] (k:=?_);refine cd (λc2=>?_) λc2=>?_
 ·try simp only[ai]at c2
  refine go [.R,.a,.Z] (k:=?_);refine aM 4 ?_;simp only[bj,aA,reduceIte,Nat.reduceEqDiff];cases a;cases b;simp_all
 try simp only[ai]at c2
 refine jd (bP ?_);refine go [.f,.N,.l,.f,.l,.N,.b,.Z] (k:=?_);refine cd (λc3=>?_) λc3=>?_
 ·try simp only[ai]at c3
  refine go [.R,.a,.Z] (k:=?_);refine aM 4 ?_;simp only[bj,aA,reduceIte,Nat.reduceEqDiff];cases a;cases b;simp_all
 try simp only[ai]at c3
 refine jd (bP ?_);refine go [.f,.N,.l,.f,.l,.N,.b,.Z] (k:=?_);refine cd (λc4=>?_) λc4=>?_
 ·try simp only[ai]at c4
  refine go [.R,.a,.Z] (k:=?_);refine aM 4 ?_;simp only[bj,aA,reduceIte,Nat.reduceEqDiff];cases a;cases b;simp_all
 try simp only[ai]at c4
 refine jd (bP ?_);refine go [.f,.N,.l,.f,.l,.N,.b,.Z] (k:=?_);refine cd (λc5=>?_) λc5=>?_
 ·try simp only[ai]at c5
  refine go [.R,.a,.Z] (k:=?_);refine aM 4 ?_;simp only[bj,aA,reduceIte,Nat.reduceEqDiff];cases a;cases b;simp_all
 try simp only[ai]at c5
 refine go [.J,.R,.a,.Z] (k:=?_);refine aM 4 ?_;simp only[bj,aA,reduceIte,Nat.reduceEqDiff];cases a;cases b;simp_all
theorem tL(a b:List aw):bf Tryz.prog 55 [.h aa [], .h (aa+1) []] [.rt aa .ro (tr a), .rt (aa+1) .ro (tr b)] (λy _=>y= .v (.bool (decide (a=b)))):=by
 refine ob Tryz.func55 Tryz.ntmps55 ?_;refine AW.len aa [] rfl (by simp[ck]) rfl (λhl=>?_);refine AW.len (aa+1) [] rfl (by simp[ck]) rfl (λhl2=>?_);refine go [.R,.a,.Z,.R2,.m,.h,.N,.m,.h,.b,.Z] (k:=?_);refine cd (λc1=>?_) λc1=>?_
 ·try simp only[ai]at c1
  refine go [.R,.a,.Z] (k:=?_);refine aM 4 ?_;simp only[bj,aA,reduceIte,Nat.reduceEqDiff];rw[decide_eq_false (show a≠b from fm (by omega))]
 try simp only[ai]at c1
 refine jd (bP ?_);refine go [.a,.Z] (k:=?_);refine AW.block ?_;refine AW.bw (λi:iz a b=>[.sl 5 (.v (iv i.k)), .sl 0 (.h aa []), .sl 1 (.h (aa+1) []), .rt aa .ro (tr a), .rt (aa+1) .ro (tr b)]) (λi=>a.length-i.k) ⟨0,zero_le _,rfl⟩ (ws) ?_;intro i;have hle:=i.le;refine go [.R2,.m,.N,.m,.h,.b,.Z] (k:=?_);refine cd (λc2=>?_) λc2=>?_
 ·try simp only[ai]at c2
  refine jd (AW.seq (AW.block (AW.seq ?_)));refine go [.D [0,1,2,3,4,5,6,7,9],.t 0,.m,.N,.t 1,.m,.t 2,.i,.t 3,.G,.N,.t 4,.m,.t 5,.m,.t 6,.i,.N,.t 7,.G] (k:=?_);refine a1 8 [] [7,3,6,2,5,4,1,0] rfl rfl (aK.aL rfl (by decide) Tryz.call126 rfl rfl (uo _ _)) ?_;refine go [.N,.t 9,.n,.Z] (k:=?_);refine cd (λc3=>?_) λc3=>?_
  ·try simp only[ai]at c3
   refine go [.R,.a,.Z] (k:=?_);refine aM 4 ?_;simp only[bj,aA,reduceIte,Nat.reduceEqDiff];rw[decide_eq_false (show a≠b from i.stop En.ab (by simpa using c3))]
  try simp only[ai]at c3
  refine go [.J,.R1,.m,.N,.b,.a,.Z] (k:=?_);refine⟨⟨i.k+1,by omega,i.next En.ab (by omega) (by omega) (by simpa using c3)⟩,ws,?_⟩;show a.length-(i.k+1)<a.length-i.k;omega
 try simp only[ai]at c2
 refine AW.exit ?_;dsimp only[aJ,ay,reduceIte];refine go [.R,.a,.Z] (k:=?_);refine aM 4 ?_;simp only[bj,aA,reduceIte,Nat.reduceEqDiff];rw[decide_eq_true (show a=b from i.full (by omega) (by omega))]
theorem eW(a b:List Int):bf Tryz.prog 58 [.h aa [], .h (aa+1) []] [.rt aa .ro (tr a), .rt (aa+1) .ro (tr b)] (λy _=>y= .v (.bool (decide (a=b)))):=by
 refine ob Tryz.func58 Tryz.ntmps58 ?_;refine AW.len aa [] rfl (by simp[ck]) rfl (λhl=>?_);refine AW.len (aa+1) [] rfl (by simp[ck]) rfl (λhl2=>?_);refine go [.R,.a,.Z,.R2,.m,.h,.N,.m,.h,.b,.Z] (k:=?_);refine cd (λc1=>?_) λc1=>?_
 ·try simp only[ai]at c1
  refine go [.R,.a,.Z] (k:=?_);refine aM 4 ?_;simp only[bj,aA,reduceIte,Nat.reduceEqDiff];rw[decide_eq_false (show a≠b from fm (by omega))]
 try simp only[ai]at c1
 refine jd (bP ?_);refine go [.a,.Z] (k:=?_);refine AW.block ?_;refine AW.bw (λi:iz a b=>[.sl 5 (.v (iv i.k)), .sl 0 (.h aa []), .sl 1 (.h (aa+1) []), .rt aa .ro (tr a), .rt (aa+1) .ro (tr b)]) (λi=>a.length-i.k) ⟨0,zero_le _,rfl⟩ (ws) ?_;intro i;have hle:=i.le;refine go [.R2,.m,.N,.m,.h,.b,.Z] (k:=?_);refine cd (λc2=>?_) λc2=>?_
 ·try simp only[ai]at c2
  refine jd (AW.seq (AW.block (AW.seq ?_)));refine go [.D [0,1,2,3,4,5,6,7,8],.t 0,.m,.N,.t 1,.m,.t 2,.i,.t 3,.l,.N,.t 4,.m,.t 5,.m,.t 6,.i,.N,.t 7,.l,.t 8,.b,.Z] (k:=?_);refine cd (λc3=>?_) λc3=>?_
  ·try simp only[ai]at c3
   refine go [.R,.a,.Z] (k:=?_);refine aM 4 ?_;simp only[bj,aA,reduceIte,Nat.reduceEqDiff];rw[decide_eq_false (show a≠b from i.stop En.ab (by simpa using c3))]
  try simp only[ai]at c3
  refine go [.J,.R1,.m,.N,.b,.a,.Z] (k:=?_);refine⟨⟨i.k+1,by omega,i.next En.ab (by omega) (by omega) (by simpa using c3)⟩,ws,?_⟩;show a.length-(i.k+1)<a.length-i.k;omega
 try simp only[ai]at c2
 refine AW.exit ?_;dsimp only[aJ,ay,reduceIte];refine go [.R,.a,.Z] (k:=?_);refine aM 4 ?_;simp only[bj,aA,reduceIte,Nat.reduceEqDiff];rw[decide_eq_true (show a=b from i.full (by omega) (by omega))]
theorem uE(a b:cm):bf Tryz.prog 128 [.g [.v (iv a.Name), .h aa []], .g [.v (iv b.Name), .h (aa+1) []]] [.rt aa .ro (tr a.Data), .rt (aa+1) .ro (tr b.Data)] (λy _=>y= .v (.bool (decide (a=b)))):=by
 refine ob Tryz.func128 Tryz.ntmps128 ?_;refine go [.R,.B,.N,.B,.N,.a,.Z,.R2,.f,.l,.N,.f,.l,.b,.Z] (k:=?_);refine cd (λc1=>?_) λc1=>?_
 ·try simp only[ai]at c1
  refine go [.R,.a,.Z] (k:=?_);refine aM 4 ?_;simp only[bj,aA,reduceIte,Nat.reduceEqDiff];cases a;cases b;simp_all
 try simp only[ai]at c1
 refine jd (bP ?_);refine go [.f,.N,.l,.f,.l,.N] (k:=?_);refine cv Tryz.call58 rfl rfl (eW _ _) ?_;refine go [.N,.n,.Z] (k:=?_);refine cd (λc2=>?_) λc2=>?_
 ·try simp only[ai]at c2
  refine go [.R,.a,.Z] (k:=?_);refine aM 4 ?_;simp only[bj,aA,reduceIte,Nat.reduceEqDiff];cases a;cases b;simp_all
 try simp only[ai]at c2
 refine go [.J,.R,.a,.Z] (k:=?_);refine aM 4 ?_;simp only[bj,aA,reduceIte,Nat.reduceEqDiff];cases a;cases b;simp_all
theorem tE(a b:List cm):bf Tryz.prog 57 [.h aa [], .h (aa+1) []] [.rt aa .ro (tr a), .rt (aa+1) .ro (tr b)] (λy _=>y= .v (.bool (decide (a=b)))):=by
 refine ob Tryz.func57 Tryz.ntmps57 ?_;refine AW.len aa [] rfl (by simp[ck]) rfl (λhl=>?_);refine AW.len (aa+1) [] rfl (by simp[ck]) rfl (λhl2=>?_);refine go [.R,.a,.Z,.R2,.m,.h,.N,.m,.h,.b,.Z] (k:=?_);refine cd (λc1=>?_) λc1=>?_
 ·try simp only[ai]at c1
  refine go [.R,.a,.Z] (k:=?_);refine aM 4 ?_;simp only[bj,aA,reduceIte,Nat.reduceEqDiff];rw[decide_eq_false (show a≠b from fm (by omega))]
 try simp only[ai]at c1
 refine jd (bP ?_);refine go [.a,.Z] (k:=?_);refine AW.block ?_;refine AW.bw (λi:iz a b=>[.sl 5 (.v (iv i.k)), .sl 0 (.h aa []), .sl 1 (.h (aa+1) []), .rt aa .ro (tr a), .rt (aa+1) .ro (tr b)]) (λi=>a.length-i.k) ⟨0,zero_le _,rfl⟩ (ws) ?_;intro i;have hle:=i.le;refine go [.R2,.m,.N,.m,.h,.b,.Z] (k:=?_);refine cd (λc2=>?_) λc2=>?_
 ·try simp only[ai]at c2
  refine jd (AW.seq (AW.block (AW.seq ?_)));refine go [.D [0,1,2,3,4,5,6,7,9],.t 0,.m,.N,.t 1,.m,.t 2,.i,.t 3,.G,.N,.t 4,.m,.t 5,.m,.t 6,.i,.N,.t 7,.G] (k:=?_);refine a1 8 [] [7,3,6,2,5,4,1,0] rfl rfl (aK.aL rfl (by decide) Tryz.call128 rfl rfl (uE _ _)) ?_;refine go [.N,.t 9,.n,.Z] (k:=?_);refine cd (λc3=>?_) λc3=>?_
  ·try simp only[ai]at c3
   refine go [.R,.a,.Z] (k:=?_);refine aM 4 ?_;simp only[bj,aA,reduceIte,Nat.reduceEqDiff];rw[decide_eq_false (show a≠b from i.stop En.ab (by simpa using c3))]
  try simp only[ai]at c3
  refine go [.J,.R1,.m,.N,.b,.a,.Z] (k:=?_);refine⟨⟨i.k+1,by omega,i.next En.ab (by omega) (by omega) (by simpa using c3)⟩,ws,?_⟩;show a.length-(i.k+1)<a.length-i.k;omega
 try simp only[ai]at c2
 refine AW.exit ?_;dsimp only[aJ,ay,reduceIte];refine go [.R,.a,.Z] (k:=?_);refine aM 4 ?_;simp only[bj,aA,reduceIte,Nat.reduceEqDiff];rw[decide_eq_true (show a=b from i.full (by omega) (by omega))]
theorem wi(a b:oM):bf Tryz.prog 179 [.g [.v (iv a.Pc), .h aa []], .g [.v (iv b.Pc), .h (aa+1) []]] [.rt aa .ro (tr a.cy), .rt (aa+1) .ro (tr b.cy)] (λy _=>y= .v (.bool (decide (a=b)))):=by
 refine ob Tryz.func179 Tryz.ntmps179 ?_;refine go [.R,.B,.N,.B,.N,.a,.Z,.R2,.f,.l,.N,.f,.l,.b,.Z] (k:=?_);refine cd (λc1=>?_) λc1=>?_
 ·try simp only[ai]at c1
  refine go [.R,.a,.Z] (k:=?_);refine aM 4 ?_;simp only[bj,aA,reduceIte,Nat.reduceEqDiff];cases a;cases b;simp_all
 try simp only[ai]at c1
 refine jd (bP ?_);refine go [.f,.N,.l,.f,.l,.N] (k:=?_);refine cv Tryz.call58 rfl rfl (eW _ _) ?_;refine go [.N,.n,.Z] (k:=?_);refine cd (λc2=>?_) λc2=>?_
 ·try simp only[ai]at c2
  refine go [.R,.a,.Z] (k:=?_);refine aM 4 ?_;simp only[bj,aA,reduceIte,Nat.reduceEqDiff];cases a;cases b;simp_all
 try simp only[ai]at c2
 refine go [.J,.R,.a,.Z] (k:=?_);refine aM 4 ?_;simp only[bj,aA,reduceIte,Nat.reduceEqDiff];cases a;cases b;simp_all
theorem rO(a b:dD):bf Tryz.prog 129 [.g [.v (iv a.fc), .v (iv a.b_), .v (iv a.State), .v (iv a.ft), .v (iv a.d_.Pc), .h aa [], .h (aa+1) [], .h (aa+2) [], .v (iv a.di), .v (iv a.Code)], .g [.v (iv b.fc), .v (iv b.b_), .v (iv b.State), .v (iv b.ft), .v (iv b.d_.Pc), .h (aa+3) [], .h (aa+4) [], .h (aa+5) [], .v (iv b.di), .v (iv b.Code)]] [.rt aa .ro (tr a.d_.cy), .rt (aa+1) .ro (tr a.bb), .rt (aa+2) .ro (tr a.cV), .rt (aa+3) .ro (tr b.d_.cy), .rt (aa+4) .ro (tr b.bb), .rt (aa+5) .ro (tr b.cV)] (λy _=>y= .v (.bool (decide (a=b)))):=by
 refine ob Tryz.func129 Tryz.ntmps129 ?_;refine go [.R,.B,.N,.B,.N,.a,.Z,.R2,.f,.l,.N,.f,.l,.b,.Z] (k:=?_);refine cd (λc1=>?_) λc1=>?_
 ·try simp only[ai]at c1
  refine go [.R,.a,.Z] (k:=?_);refine aM 4 ?_;simp only[bj,aA,reduceIte,Nat.reduceEqDiff];cases a;cases b;simp_all
 try simp only[ai]at c1
 refine jd (bP ?_);refine go [.f,.N,.l,.f,.l,.N,.b,.Z] (k:=?_);refine cd (λc2=>?_) λc2=>?_
 ·try simp only[ai]at c2
  refine go [.R,.a,.Z] (k:=?_);refine aM 4 ?_;simp only[bj,aA,reduceIte,Nat.reduceEqDiff];cases a;cases b;simp_all
 try simp only[ai]at c2
 refine jd (bP ?_);refine go [.f,.N,.l,.f,.l,.N,.b,.Z] (k:=?_);refine cd (λc3=>?_) λc3=>?_
 ·try simp only[ai]at c3
  refine go [.R,.a,.Z] (k:=?_);refine aM 4 ?_;simp only[bj,aA,reduceIte,Nat.reduceEqDiff];cases a;cases b;simp_all
 try simp only[ai]at c3
 refine jd (bP ?_);refine go [.f,.N,.l,.f,.l,.N,.b,.Z] (k:=?_);refine cd (λc4=>?_) λc4=>?_
 ·try simp only[ai]at c4
  refine go [.R,.a,.Z] (k:=?_);refine aM 4 ?_;simp only[bj,aA,reduceIte,Nat.reduceEqDiff];cases a;cases b;simp_all
 try simp only[ai]at c4
 refine jd (bP ?_);refine go [.f,.N,.G,.f,.G,.N] (k:=?_);refine cv Tryz.call179 rfl rfl (wi _ _) ?_;refine go [.N,.n,.Z] (k:=?_);refine cd (λc5=>?_) λc5=>?_
 ·try simp only[ai]at c5
  refine go [.R,.a,.Z] (k:=?_);refine aM 4 ?_;simp only[bj,aA,reduceIte,Nat.reduceEqDiff];cases a;cases b;simp_all
 try simp only[ai]at c5
 refine jd (bP ?_);refine go [.f,.N,.l,.f,.l,.N] (k:=?_);refine cv Tryz.call58 rfl rfl (eW _ _) ?_;refine go [.N,.n,.Z] (k:=?_);refine cd (λc6=>?_) λc6=>?_
 ·try simp only[ai]at c6
  refine go [.R,.a,.Z] (k:=?_);refine aM 4 ?_;simp only[bj,aA,reduceIte,Nat.reduceEqDiff];cases a;cases b;simp_all
 try simp only[ai]at c6
 refine jd (bP ?_);refine go [.f,.N,.l,.f,.l,.N] (k:=?_);refine cv Tryz.call58 rfl rfl (eW _ _) ?_;refine go [.N,.n,.Z] (k:=?_);refine cd (λc7=>?_) λc7=>?_
 ·try simp only[ai]at c7
  refine go [.R,.a,.Z] (k:=?_);refine aM 4 ?_;simp only[bj,aA,reduceIte,Nat.reduceEqDiff];cases a;cases b;simp_all
 try simp only[ai]at c7
 refine jd (bP ?_);refine go [.f,.N,.l,.f,.l,.N,.b,.Z] (k:=?_);refine cd (λc8=>?_) λc8=>?_
 ·try simp only[ai]at c8
  refine go [.R,.a,.Z] (k:=?_);refine aM 4 ?_;simp only[bj,aA,reduceIte,Nat.reduceEqDiff];cases a;cases b;simp_all
 try simp only[ai]at c8
 refine jd (bP ?_);refine go [.f,.N,.l,.f,.l,.N,.b,.Z] (k:=?_);refine cd (λc9=>?_) λc9=>?_
 ·try simp only[ai]at c9
  refine go [.R,.a,.Z] (k:=?_);refine aM 4 ?_;simp only[bj,aA,reduceIte,Nat.reduceEqDiff];cases a;cases b;simp_all
 try simp only[ai]at c9
 refine go [.J,.R,.a,.Z] (k:=?_);refine aM 4 ?_;simp only[bj,aA,reduceIte,Nat.reduceEqDiff];cases a;cases b;simp_all
theorem ru(a b:List dD):bf Tryz.prog 59 [.h aa [], .h (aa+1) []] [.rt aa .ro (tr a), .rt (aa+1) .ro (tr b)] (λy _=>y= .v (.bool (decide (a=b)))):=by
 refine ob Tryz.func59 Tryz.ntmps59 ?_;refine AW.len aa [] rfl (by simp[ck]) rfl (λhl=>?_);refine AW.len (aa+1) [] rfl (by simp[ck]) rfl (λhl2=>?_);refine go [.R,.a,.Z,.R2,.m,.h,.N,.m,.h,.b,.Z] (k:=?_);refine cd (λc1=>?_) λc1=>?_
 ·try simp only[ai]at c1
  refine go [.R,.a,.Z] (k:=?_);refine aM 4 ?_;simp only[bj,aA,reduceIte,Nat.reduceEqDiff];rw[decide_eq_false (show a≠b from fm (by omega))]
 try simp only[ai]at c1
 refine jd (bP ?_);refine go [.a,.Z] (k:=?_);refine AW.block ?_;refine AW.bw (λi:iz a b=>[.sl 5 (.v (iv i.k)), .sl 0 (.h aa []), .sl 1 (.h (aa+1) []), .rt aa .ro (tr a), .rt (aa+1) .ro (tr b)]) (λi=>a.length-i.k) ⟨0,zero_le _,rfl⟩ (ws) ?_;intro i;have hle:=i.le;refine go [.R2,.m,.N,.m,.h,.b,.Z] (k:=?_);refine cd (λc2=>?_) λc2=>?_
 ·try simp only[ai]at c2
  refine jd (AW.seq (AW.block (AW.seq ?_)));refine go [.D [0,1,2,3,4,5,6,7,9],.t 0,.m,.N,.t 1,.m,.t 2,.i,.t 3,.G,.N,.t 4,.m,.t 5,.m,.t 6,.i,.N,.t 7,.G] (k:=?_);refine a1 8 [] [7,3,6,2,5,4,1,0] rfl rfl (aK.aL rfl (by decide) Tryz.call129 rfl rfl (rO _ _)) ?_;refine go [.N,.t 9,.n,.Z] (k:=?_);refine cd (λc3=>?_) λc3=>?_
  ·try simp only[ai]at c3
   refine go [.R,.a,.Z] (k:=?_);refine aM 4 ?_;simp only[bj,aA,reduceIte,Nat.reduceEqDiff];rw[decide_eq_false (show a≠b from i.stop En.ab (by simpa using c3))]
  try simp only[ai]at c3
  refine go [.J,.R1,.m,.N,.b,.a,.Z] (k:=?_);refine⟨⟨i.k+1,by omega,i.next En.ab (by omega) (by omega) (by simpa using c3)⟩,ws,?_⟩;show a.length-(i.k+1)<a.length-i.k;omega
 try simp only[ai]at c2
 refine AW.exit ?_;dsimp only[aJ,ay,reduceIte];refine go [.R,.a,.Z] (k:=?_);refine aM 4 ?_;simp only[bj,aA,reduceIte,Nat.reduceEqDiff];rw[decide_eq_true (show a=b from i.full (by omega) (by omega))]
theorem mN(a b:List (List Int)):bf Tryz.prog 130 [.h aa [], .h (aa+1) []] [.rt aa .ro (tr a), .rt (aa+1) .ro (tr b)] (λy _=>y= .v (.bool (decide (a=b)))):=by
 refine ob Tryz.func130 Tryz.ntmps130 ?_;refine AW.len aa [] rfl (by simp[ck]) rfl (λhl=>?_);refine AW.len (aa+1) [] rfl (by simp[ck]) rfl (λhl2=>?_);refine go [.R,.a,.Z,.R2,.m,.h,.N,.m,.h,.b,.Z] (k:=?_);refine cd (λc1=>?_) λc1=>?_
 ·try simp only[ai]at c1
  refine go [.R,.a,.Z] (k:=?_);refine aM 4 ?_;simp only[bj,aA,reduceIte,Nat.reduceEqDiff];rw[decide_eq_false (show a≠b from fm (by omega))]
 try simp only[ai]at c1
 refine jd (bP ?_);refine go [.a,.Z] (k:=?_);refine AW.block ?_;refine AW.bw (λi:iz a b=>[.sl 5 (.v (iv i.k)), .sl 0 (.h aa []), .sl 1 (.h (aa+1) []), .rt aa .ro (tr a), .rt (aa+1) .ro (tr b)]) (λi=>a.length-i.k) ⟨0,zero_le _,rfl⟩ (ws) ?_;intro i;have hle:=i.le;refine go [.R2,.m,.N,.m,.h,.b,.Z] (k:=?_);refine cd (λc2=>?_) λc2=>?_
 ·try simp only[ai]at c2
  refine jd (AW.seq (AW.block (AW.seq ?_)));refine go [.D [0,1,2,3,4,5,6,7,9],.t 0,.m,.N,.t 1,.m,.t 2,.i,.t 3,.l,.N,.t 4,.m,.t 5,.m,.t 6,.i,.N,.t 7,.l] (k:=?_);refine a1 8 [] [7,3,6,2,5,4,1,0] rfl rfl (aK.aL rfl (by decide) Tryz.call58 rfl rfl (eW _ _)) ?_;refine go [.N,.t 9,.n,.Z] (k:=?_);refine cd (λc3=>?_) λc3=>?_
  ·try simp only[ai]at c3
   refine go [.R,.a,.Z] (k:=?_);refine aM 4 ?_;simp only[bj,aA,reduceIte,Nat.reduceEqDiff];rw[decide_eq_false (show a≠b from i.stop En.ab (by simpa using c3))]
  try simp only[ai]at c3
  refine go [.J,.R1,.m,.N,.b,.a,.Z] (k:=?_);refine⟨⟨i.k+1,by omega,i.next En.ab (by omega) (by omega) (by simpa using c3)⟩,ws,?_⟩;show a.length-(i.k+1)<a.length-i.k;omega
 try simp only[ai]at c2
 refine AW.exit ?_;dsimp only[aJ,ay,reduceIte];refine go [.R,.a,.Z] (k:=?_);refine aM 4 ?_;simp only[bj,aA,reduceIte,Nat.reduceEqDiff];rw[decide_eq_true (show a=b from i.full (by omega) (by omega))]
theorem sG(a b:gN):bf Tryz.prog 60 [.g [.h aa []], .g [.h (aa+1) []]] [.rt aa .ro (tr a.aU), .rt (aa+1) .ro (tr b.aU)] (λy _=>y= .v (.bool (decide (a=b)))):=by
 refine ob Tryz.func60 Tryz.ntmps60 ?_;refine go [.R,.B,.N,.B,.N,.a,.Z,.R2,.f,.l,.N,.f,.l] (k:=?_);refine cv Tryz.call130 rfl rfl (mN _ _) ?_;refine go [.N,.n,.Z] (k:=?_);refine cd (λc1=>?_) λc1=>?_
 ·try simp only[ai]at c1
  refine go [.R,.a,.Z] (k:=?_);refine aM 4 ?_;simp only[bj,aA,reduceIte,Nat.reduceEqDiff];cases a;cases b;simp_all
 try simp only[ai]at c1
 refine go [.J,.R,.a,.Z] (k:=?_);refine aM 4 ?_;simp only[bj,aA,reduceIte,Nat.reduceEqDiff];cases a;cases b;simp_all
theorem sO(a b:dp):bf Tryz.prog 131 [.g [.v (iv a.Id), .h aa []], .g [.v (iv b.Id), .h (aa+1) []]] [.rt aa .ro (tr a.bn), .rt (aa+1) .ro (tr b.bn)] (λy _=>y= .v (.bool (decide (a=b)))):=by
 refine ob Tryz.func131 Tryz.ntmps131 ?_;refine go [.R,.B,.N,.B,.N,.a,.Z,.R2,.f,.l,.N,.f,.l,.b,.Z] (k:=?_);refine cd (λc1=>?_) λc1=>?_
 ·try simp only[ai]at c1
  refine go [.R,.a,.Z] (k:=?_);refine aM 4 ?_;simp only[bj,aA,reduceIte,Nat.reduceEqDiff];cases a;cases b;simp_all
 try simp only[ai]at c1
 refine jd (bP ?_);refine go [.f,.N,.l,.f,.l,.N] (k:=?_);refine cv Tryz.call130 rfl rfl (mN _ _) ?_;refine go [.N,.n,.Z] (k:=?_);refine cd (λc2=>?_) λc2=>?_
 ·try simp only[ai]at c2
  refine go [.R,.a,.Z] (k:=?_);refine aM 4 ?_;simp only[bj,aA,reduceIte,Nat.reduceEqDiff];cases a;cases b;simp_all
 try simp only[ai]at c2
 refine go [.J,.R,.a,.Z] (k:=?_);refine aM 4 ?_;simp only[bj,aA,reduceIte,Nat.reduceEqDiff];cases a;cases b;simp_all
theorem qk(a b:List dp):bf Tryz.prog 61 [.h aa [], .h (aa+1) []] [.rt aa .ro (tr a), .rt (aa+1) .ro (tr b)] (λy _=>y= .v (.bool (decide (a=b)))):=by
 refine ob Tryz.func61 Tryz.ntmps61 ?_;refine AW.len aa [] rfl (by simp[ck]) rfl (λhl=>?_);refine AW.len (aa+1) [] rfl (by simp[ck]) rfl (λhl2=>?_);refine go [.R,.a,.Z,.R2,.m,.h,.N,.m,.h,.b,.Z] (k:=?_);refine cd (λc1=>?_) λc1=>?_
 ·try simp only[ai]at c1
  refine go [.R,.a,.Z] (k:=?_);refine aM 4 ?_;simp only[bj,aA,reduceIte,Nat.reduceEqDiff];rw[decide_eq_false (show a≠b from fm (by omega))]
 try simp only[ai]at c1
 refine jd (bP ?_);refine go [.a,.Z] (k:=?_);refine AW.block ?_;refine AW.bw (λi:iz a b=>[.sl 5 (.v (iv i.k)), .sl 0 (.h aa []), .sl 1 (.h (aa+1) []), .rt aa .ro (tr a), .rt (aa+1) .ro (tr b)]) (λi=>a.length-i.k) ⟨0,zero_le _,rfl⟩ (ws) ?_;intro i;have hle:=i.le;refine go [.R2,.m,.N,.m,.h,.b,.Z] (k:=?_);refine cd (λc2=>?_) λc2=>?_
 ·try simp only[ai]at c2
  refine jd (AW.seq (AW.block (AW.seq ?_)));refine go [.D [0,1,2,3,4,5,6,7,9],.t 0,.m,.N,.t 1,.m,.t 2,.i,.t 3,.G,.N,.t 4,.m,.t 5,.m,.t 6,.i,.N,.t 7,.G] (k:=?_);refine a1 8 [] [7,3,6,2,5,4,1,0] rfl rfl (aK.aL rfl (by decide) Tryz.call131 rfl rfl (sO _ _)) ?_;refine go [.N,.t 9,.n,.Z] (k:=?_);refine cd (λc3=>?_) λc3=>?_
  ·try simp only[ai]at c3
   refine go [.R,.a,.Z] (k:=?_);refine aM 4 ?_;simp only[bj,aA,reduceIte,Nat.reduceEqDiff];rw[decide_eq_false (show a≠b from i.stop En.ab (by simpa using c3))]
  try simp only[ai]at c3
  refine go [.J,.R1,.m,.N,.b,.a,.Z] (k:=?_);refine⟨⟨i.k+1,by omega,i.next En.ab (by omega) (by omega) (by simpa using c3)⟩,ws,?_⟩;show a.length-(i.k+1)<a.length-i.k;omega
 try simp only[ai]at c2
 refine AW.exit ?_;dsimp only[aJ,ay,reduceIte];refine go [.R,.a,.Z] (k:=?_);refine aM 4 ?_;simp only[bj,aA,reduceIte,Nat.reduceEqDiff];rw[decide_eq_true (show a=b from i.full (by omega) (by omega))]
theorem s_(a b:bH):bf Tryz.prog 11 [.g [.v (iv a.Next), .v (iv a.bF), .h aa [], .h (aa+1) [], .h (aa+2) [], .h (aa+3) [], .h (aa+4) [], .h (aa+5) [], .h (aa+6) [], .h (aa+7) [], .h (aa+8) []], .g [.v (iv b.Next), .v (iv b.bF), .h (aa+9) [], .h (aa+10) [], .h (aa+11) [], .h (aa+12) [], .h (aa+13) [], .h (aa+14) [], .h (aa+15) [], .h (aa+16) [], .h (aa+17) []]] [.rt aa .ro (tr a.aV), .rt (aa+1) .ro (tr a.ah), .rt (aa+2) .ro (tr a.fb), .rt (aa+3) .ro (tr a.Heap.aU), .rt (aa+4) .ro (tr a.ax), .rt (aa+5) .ro (tr a.ao), .rt (aa+6) .ro (tr a.aC), .rt (aa+7) .ro (tr a.aR), .rt (aa+8) .ro (tr a.Out), .rt (aa+9) .ro (tr b.aV), .rt (aa+10) .ro (tr b.ah), .rt (aa+11) .ro (tr b.fb), .rt (aa+12) .ro (tr b.Heap.aU), .rt (aa+13) .ro (tr b.ax), .rt (aa+14) .ro (tr b.ao), .rt (aa+15) .ro (tr b.aC), .rt (aa+16) .ro (tr b.aR), .rt (aa+17) .ro (tr b.Out)] (λy _=>y= .v (.bool (decide (a=b)))):=by
 refine ob Tryz.func11 Tryz.ntmps11 ?_;refine go [.R,.B,.N,.B,.N,.a,.Z,.R2,.f,.l,.N,.f,.l,.b,.Z] (k:=?_);refine cd (λc1=>?_) λc1=>?_
 ·try simp only[ai]at c1
  refine go [.R,.a,.Z] (k:=?_);refine aM 4 ?_;simp only[bj,aA,reduceIte,Nat.reduceEqDiff];cases a;cases b;simp_all
 try simp only[ai]at c1
 refine jd (bP ?_);refine go [.f,.N,.l,.f,.l,.N,.b,.Z] (k:=?_);refine cd (λc2=>?_) λc2=>?_
 ·try simp only[ai]at c2
  refine go [.R,.a,.Z] (k:=?_);refine aM 4 ?_;simp only[bj,aA,reduceIte,Nat.reduceEqDiff];cases a;cases b;simp_all
 try simp only[ai]at c2
 refine jd (bP ?_);refine go [.f,.N,.l,.f,.l,.N] (k:=?_);refine cv Tryz.call53 rfl rfl (tR _ _) ?_;refine go [.N,.n,.Z] (k:=?_);refine cd (λc3=>?_) λc3=>?_
 ·try simp only[ai]at c3
  refine go [.R,.a,.Z] (k:=?_);refine aM 4 ?_;simp only[bj,aA,reduceIte,Nat.reduceEqDiff];cases a;cases b;simp_all
 try simp only[ai]at c3
 refine jd (bP ?_);refine go [.f,.N,.l,.f,.l,.N] (k:=?_);refine cv Tryz.call59 rfl rfl (ru _ _) ?_;refine go [.N,.n,.Z] (k:=?_);refine cd (λc4=>?_) λc4=>?_
 ·try simp only[ai]at c4
  refine go [.R,.a,.Z] (k:=?_);refine aM 4 ?_;simp only[bj,aA,reduceIte,Nat.reduceEqDiff];cases a;cases b;simp_all
 try simp only[ai]at c4
 refine jd (bP ?_);refine go [.f,.N,.l,.f,.l,.N] (k:=?_);refine cv Tryz.call58 rfl rfl (eW _ _) ?_;refine go [.N,.n,.Z] (k:=?_);refine cd (λc5=>?_) λc5=>?_
 ·try simp only[ai]at c5
  refine go [.R,.a,.Z] (k:=?_);refine aM 4 ?_;simp only[bj,aA,reduceIte,Nat.reduceEqDiff];cases a;cases b;simp_all
 try simp only[ai]at c5
 refine jd (bP ?_);refine go [.f,.N,.G,.f,.G,.N] (k:=?_);refine cv Tryz.call60 rfl rfl (sG _ _) ?_;refine go [.N,.n,.Z] (k:=?_);refine cd (λc6=>?_) λc6=>?_
 ·try simp only[ai]at c6
  refine go [.R,.a,.Z] (k:=?_);refine aM 4 ?_;simp only[bj,aA,reduceIte,Nat.reduceEqDiff];cases a;cases b;simp_all
 try simp only[ai]at c6
 refine jd (bP ?_);refine go [.f,.N,.l,.f,.l,.N] (k:=?_);refine cv Tryz.call55 rfl rfl (tL _ _) ?_;refine go [.N,.n,.Z] (k:=?_);refine cd (λc7=>?_) λc7=>?_
 ·try simp only[ai]at c7
  refine go [.R,.a,.Z] (k:=?_);refine aM 4 ?_;simp only[bj,aA,reduceIte,Nat.reduceEqDiff];cases a;cases b;simp_all
 try simp only[ai]at c7
 refine jd (bP ?_);refine go [.f,.N,.l,.f,.l,.N] (k:=?_);refine cv Tryz.call61 rfl rfl (qk _ _) ?_;refine go [.N,.n,.Z] (k:=?_);refine cd (λc8=>?_) λc8=>?_
 ·try simp only[ai]at c8
  refine go [.R,.a,.Z] (k:=?_);refine aM 4 ?_;simp only[bj,aA,reduceIte,Nat.reduceEqDiff];cases a;cases b;simp_all
 try simp only[ai]at c8
 refine jd (bP ?_);refine go [.f,.N,.l,.f,.l,.N] (k:=?_);refine cv Tryz.call57 rfl rfl (tE _ _) ?_;refine go [.N,.n,.Z] (k:=?_);refine cd (λc9=>?_) λc9=>?_
 ·try simp only[ai]at c9
  refine go [.R,.a,.Z] (k:=?_);refine aM 4 ?_;simp only[bj,aA,reduceIte,Nat.reduceEqDiff];cases a;cases b;simp_all
 try simp only[ai]at c9
 refine jd (bP ?_);refine go [.f,.N,.l,.f,.l,.N] (k:=?_);refine cv Tryz.call58 rfl rfl (eW _ _) ?_;refine go [.N,.n,.Z] (k:=?_);refine cd (λc10=>?_) λc10=>?_
 ·try simp only[ai]at c10
  refine go [.R,.a,.Z] (k:=?_);refine aM 4 ?_;simp only[bj,aA,reduceIte,Nat.reduceEqDiff];cases a;cases b;simp_all
 try simp only[ai]at c10
 refine jd (bP ?_);refine go [.f,.N,.l,.f,.l,.N] (k:=?_);refine cv Tryz.call58 rfl rfl (eW _ _) ?_;refine go [.N,.n,.Z] (k:=?_);refine cd (λc11=>?_) λc11=>?_
 ·try simp only[ai]at c11
  refine go [.R,.a,.Z] (k:=?_);refine aM 4 ?_;simp only[bj,aA,reduceIte,Nat.reduceEqDiff];cases a;cases b;simp_all
 try simp only[ai]at c11
 refine go [.J,.R,.a,.Z] (k:=?_);refine aM 4 ?_;simp only[bj,aA,reduceIte,Nat.reduceEqDiff];cases a;cases b;simp_all
structure bG where
 fc:Int
 b_:Int
 State:Int
 ft:Int
 d_:oM
 Mem:List Int
 cV:List Int
 di:Int
 Code:Int
deriving DecidableEq
instance:En bG:=⟨10,by omega,λa=>[.v (iv a.fc), .v (iv a.b_), .v (iv a.State), .v (iv a.ft), .v (iv a.d_.Pc),tr a.d_.cy,tr a.Mem,tr a.cV, .v (iv a.di), .v (iv a.Code)],λ_=>rfl,λa=>En.fit a.fc∧En.fit a.b_∧En.fit a.State∧En.fit a.ft∧En.fit a.d_∧En.fit a.Mem∧En.fit a.cV∧En.fit a.di∧En.fit a.Code,⟨0,0,0,0,⟨0,[]⟩,[],[],0,0⟩⟩
@[go_sem] theorem Bj(a:bG):En.cs a=[.v (iv a.fc), .v (iv a.b_), .v (iv a.State), .v (iv a.ft), .v (iv a.d_.Pc),tr a.d_.cy,tr a.Mem,tr a.cV, .v (iv a.di), .v (iv a.Code)]:=rfl
instance:Mk bG:={ wt:=λa=>Mk.wt a.d_.cy+Mk.wt a.Mem+Mk.wt a.cV,dO:=λa=>1+1+1+1+1+(Mk.dO a.d_.cy)+(Mk.dO a.Mem)+(Mk.dO a.cV)+1+1,mark:=λa k=>⟨k,k+1,k+1+1,k+1+1+1,⟨k+1+1+1+1,Mk.mark a.d_.cy (k+1+1+1+1+1)⟩,Mk.mark a.Mem (k+1+1+1+1+1+(Mk.dO a.d_.cy:Nat)),Mk.mark a.cV (k+1+1+1+1+1+(Mk.dO a.d_.cy:Nat)+(Mk.dO a.Mem:Nat)),k+1+1+1+1+1+(Mk.dO a.d_.cy:Nat)+(Mk.dO a.Mem:Nat)+(Mk.dO a.cV:Nat),k+1+1+1+1+1+(Mk.dO a.d_.cy:Nat)+(Mk.dO a.Mem:Nat)+(Mk.dO a.cV:Nat)+1⟩,dN:=λa k=>by simp[Mk.dN] }
structure cR where
 Id:Int
 Data:List Int
deriving DecidableEq
instance:En cR:=⟨2,by omega,λa=>[.v (iv a.Id),tr a.Data],λ_=>rfl,λa=>En.fit a.Id∧En.fit a.Data,⟨0,[]⟩⟩
@[go_sem] theorem Bn(a:cR):En.cs a=[.v (iv a.Id),tr a.Data]:=rfl
structure bt where
 Next:Int
 bF:Int
 aV:List (List dE)
 ah:List bG
 ax:List aw
 ao:List cR
 aC:List cm
 aR:List Int
 Out:List Int
deriving DecidableEq
instance:En bt:=⟨9,by omega,λa=>[.v (iv a.Next), .v (iv a.bF),tr a.aV,tr a.ah,tr a.ax,tr a.ao,tr a.aC,tr a.aR,tr a.Out],λ_=>rfl,λa=>En.fit a.Next∧En.fit a.bF∧En.fit a.aV∧En.fit a.ah∧En.fit a.ax∧En.fit a.ao∧En.fit a.aC∧En.fit a.aR∧En.fit a.Out,⟨0,0,[],[],[],[],[],[],[]⟩⟩
@[go_sem] theorem Bq(a:bt):En.cs a=[.v (iv a.Next), .v (iv a.bF),tr a.aV,tr a.ah,tr a.ax,tr a.ao,tr a.aC,tr a.aR,tr a.Out]:=rfl
end Go.Proofs.YtekcnnngjoonbaaGreat.VM
