/- Contracts. No conditions. -/
import Derived.Test.YtekcnnngjoonbaaGreatWe
set_option linter.all false
set_option maxHeartbeats 8000000
set_option maxRecDepth 10000
namespace Go.Proofs.YtekcnnngjoonbaaGreat.VM
open List Nat
open Go Go.RowKit Go.Proofs Go.Proofs.Tryz
structure cU where
 Op:Int
 A:Int
 B:Int
 C:Int
deriving DecidableEq
instance:En cU:=⟨4,by omega,λa=>[.v (iv a.Op),.v (iv a.A),.v (iv a.B),.v (iv a.C)],λ_=>rfl,λa=>En.fit a.Op∧En.fit a.A∧En.fit a.B∧En.fit a.C,⟨0,0,0,0⟩⟩
@[go_sem] theorem Eh(a:cU):En.cs a=[.v (iv a.Op),.v (iv a.A),.v (iv a.B),.v (iv a.C)]:=rfl
instance:Mk cU:={ wt:=λ_=>0,dG:=λa=>1+1+1+1,mark:=λ_ k=>⟨k,k+1,k+1+1,k+1+1+1⟩,dD:=λa k=>by simp[Mk.dD] }
structure oj where
 Pc:Int
 b_:List Int
deriving DecidableEq
instance:En oj:=⟨2,by omega,λa=>[.v (iv a.Pc),tr a.b_],λ_=>rfl,λa=>En.fit a.Pc∧En.fit a.b_,⟨0,[]⟩⟩
@[go_sem] theorem Ej(a:oj):En.cs a=[.v (iv a.Pc),tr a.b_]:=rfl
instance:Mk oj:={ wt:=λa=>Mk.wt a.b_,dG:=λa=>1+(Mk.dG a.b_),mark:=λa k=>⟨k,Mk.mark a.b_ (k+1)⟩,dD:=λa k=>by simp[Mk.dD] }
structure dy where
 ey:Int
 bM:Int
 State:Int
 dX:Int
 dh:oj
 bf:List Int
 cH:List Int
 cJ:Int
 Code:Int
deriving DecidableEq
instance:En dy:=⟨10,by omega,λa=>[.v (iv a.ey),.v (iv a.bM),.v (iv a.State),.v (iv a.dX),.v (iv a.dh.Pc),tr a.dh.b_,tr a.bf,tr a.cH,.v (iv a.cJ),.v (iv a.Code)],λ_=>rfl,λa=>En.fit a.ey∧En.fit a.bM∧En.fit a.State∧En.fit a.dX∧En.fit a.dh∧En.fit a.bf∧En.fit a.cH∧En.fit a.cJ∧En.fit a.Code,⟨0,0,0,0,⟨0,[]⟩,[],[],0,0⟩⟩
@[go_sem] theorem CR(a:dy):En.cs a=[.v (iv a.ey),.v (iv a.bM),.v (iv a.State),.v (iv a.dX),.v (iv a.dh.Pc),tr a.dh.b_,tr a.bf,tr a.cH,.v (iv a.cJ),.v (iv a.Code)]:=rfl
instance:Mk dy:={ wt:=λa=>Mk.wt a.dh.b_+Mk.wt a.bf+Mk.wt a.cH,dG:=λa=>1+1+1+1+1+(Mk.dG a.dh.b_)+(Mk.dG a.bf)+(Mk.dG a.cH)+1+1,mark:=λa k=>⟨k,k+1,k+1+1,k+1+1+1,⟨k+1+1+1+1,Mk.mark a.dh.b_ (k+1+1+1+1+1)⟩,Mk.mark a.bf (k+1+1+1+1+1+(Mk.dG a.dh.b_:Nat)),Mk.mark a.cH (k+1+1+1+1+1+(Mk.dG a.dh.b_:Nat)+(Mk.dG a.bf:Nat)),k+1+1+1+1+1+(Mk.dG a.dh.b_:Nat)+(Mk.dG a.bf:Nat)+(Mk.dG a.cH:Nat),k+1+1+1+1+1+(Mk.dG a.dh.b_:Nat)+(Mk.dG a.bf:Nat)+(Mk.dG a.cH:Nat)+1⟩,dD:=λa k=>by simp[Mk.dD] }
structure gC where
 aZ:List (List Int)
deriving DecidableEq
instance:En gC:=⟨1,by omega,λa=>[tr a.aZ],λ_=>rfl,λa=>En.fit a.aZ,⟨[]⟩⟩
@[go_sem] theorem Dx(a:gC):En.cs a=[tr a.aZ]:=rfl
instance:Mk gC:={ wt:=λa=>Mk.wt a.aZ,dG:=λa=>(Mk.dG a.aZ),mark:=λa k=>⟨Mk.mark a.aZ (k)⟩,dD:=λa k=>by simp[Mk.dD] }
structure az where
 Id:Int
 Kind:Int
 Target:Int
 j3:Int
 fc:Int
deriving DecidableEq
instance:En az:=⟨5,by omega,λa=>[.v (iv a.Id),.v (iv a.Kind),.v (iv a.Target),.v (iv a.j3),.v (iv a.fc)],λ_=>rfl,λa=>En.fit a.Id∧En.fit a.Kind∧En.fit a.Target∧En.fit a.j3∧En.fit a.fc,⟨0,0,0,0,0⟩⟩
@[go_sem] theorem DR(a:az):En.cs a=[.v (iv a.Id),.v (iv a.Kind),.v (iv a.Target),.v (iv a.j3),.v (iv a.fc)]:=rfl
instance:Mk az:={ wt:=λ_=>0,dG:=λa=>1+1+1+1+1,mark:=λ_ k=>⟨k,k+1,k+1+1,k+1+1+1,k+1+1+1+1⟩,dD:=λa k=>by simp[Mk.dD] }
structure dd where
 Id:Int
 bo:List (List Int)
deriving DecidableEq
instance:En dd:=⟨2,by omega,λa=>[.v (iv a.Id),tr a.bo],λ_=>rfl,λa=>En.fit a.Id∧En.fit a.bo,⟨0,[]⟩⟩
@[go_sem] theorem Dm(a:dd):En.cs a=[.v (iv a.Id),tr a.bo]:=rfl
instance:Mk dd:={ wt:=λa=>Mk.wt a.bo,dG:=λa=>1+(Mk.dG a.bo),mark:=λa k=>⟨k,Mk.mark a.bo (k+1)⟩,dD:=λa k=>by simp[Mk.dD] }
structure ca where
 Name:Int
 Data:List Int
deriving DecidableEq
instance:En ca:=⟨2,by omega,λa=>[.v (iv a.Name),tr a.Data],λ_=>rfl,λa=>En.fit a.Name∧En.fit a.Data,⟨0,[]⟩⟩
@[go_sem] theorem DQ(a:ca):En.cs a=[.v (iv a.Name),tr a.Data]:=rfl
instance:Mk ca:={ wt:=λa=>Mk.wt a.Data,dG:=λa=>1+(Mk.dG a.Data),mark:=λa k=>⟨k,Mk.mark a.Data (k+1)⟩,dD:=λa k=>by simp[Mk.dD] }
structure bC where
 Next:Int
 bp:Int
 aP:List (List cU)
 ag:List dy
 fx:List Int
 Heap:gC
 ao:List az
 ak:List dd
 ay:List ca
 aN:List Int
 Out:List Int
deriving DecidableEq
instance:En bC:=⟨11,by omega,λa=>[.v (iv a.Next),.v (iv a.bp),tr a.aP,tr a.ag,tr a.fx,tr a.Heap.aZ,tr a.ao,tr a.ak,tr a.ay,tr a.aN,tr a.Out],λ_=>rfl,λa=>En.fit a.Next∧En.fit a.bp∧En.fit a.aP∧En.fit a.ag∧En.fit a.fx∧En.fit a.Heap∧En.fit a.ao∧En.fit a.ak∧En.fit a.ay∧En.fit a.aN∧En.fit a.Out,⟨0,0,[],[],[],⟨[]⟩,[],[],[],[],[]⟩⟩
@[go_sem] theorem C8(a:bC):En.cs a=[.v (iv a.Next),.v (iv a.bp),tr a.aP,tr a.ag,tr a.fx,tr a.Heap.aZ,tr a.ao,tr a.ak,tr a.ay,tr a.aN,tr a.Out]:=rfl
instance:Mk bC:={ wt:=λa=>Mk.wt a.aP+Mk.wt a.ag+Mk.wt a.fx+Mk.wt a.Heap.aZ+Mk.wt a.ao+Mk.wt a.ak+Mk.wt a.ay+Mk.wt a.aN+Mk.wt a.Out,dG:=λa=>1+1+(Mk.dG a.aP)+(Mk.dG a.ag)+(Mk.dG a.fx)+(Mk.dG a.Heap.aZ)+(Mk.dG a.ao)+(Mk.dG a.ak)+(Mk.dG a.ay)+(Mk.dG a.aN)+(Mk.dG a.Out),mark:=λa k=>⟨k,k+1,Mk.mark a.aP (k+1+1),Mk.mark a.ag (k+1+1+(Mk.dG a.aP:Nat)),Mk.mark a.fx (k+1+1+(Mk.dG a.aP:Nat)+(Mk.dG a.ag:Nat)),⟨Mk.mark a.Heap.aZ (k+1+1+(Mk.dG a.aP:Nat)+(Mk.dG a.ag:Nat)+(Mk.dG a.fx:Nat))⟩,Mk.mark a.ao (k+1+1+(Mk.dG a.aP:Nat)+(Mk.dG a.ag:Nat)+(Mk.dG a.fx:Nat)+(Mk.dG a.Heap.aZ:Nat)),Mk.mark a.ak (k+1+1+(Mk.dG a.aP:Nat)+(Mk.dG a.ag:Nat)+(Mk.dG a.fx:Nat)+(Mk.dG a.Heap.aZ:Nat)+(Mk.dG a.ao:Nat)),Mk.mark a.ay (k+1+1+(Mk.dG a.aP:Nat)+(Mk.dG a.ag:Nat)+(Mk.dG a.fx:Nat)+(Mk.dG a.Heap.aZ:Nat)+(Mk.dG a.ao:Nat)+(Mk.dG a.ak:Nat)),Mk.mark a.aN (k+1+1+(Mk.dG a.aP:Nat)+(Mk.dG a.ag:Nat)+(Mk.dG a.fx:Nat)+(Mk.dG a.Heap.aZ:Nat)+(Mk.dG a.ao:Nat)+(Mk.dG a.ak:Nat)+(Mk.dG a.ay:Nat)),Mk.mark a.Out (k+1+1+(Mk.dG a.aP:Nat)+(Mk.dG a.ag:Nat)+(Mk.dG a.fx:Nat)+(Mk.dG a.Heap.aZ:Nat)+(Mk.dG a.ao:Nat)+(Mk.dG a.ak:Nat)+(Mk.dG a.ay:Nat)+(Mk.dG a.aN:Nat))⟩,dD:=λa k=>by simp[Mk.dD] }
theorem vw(a:List cU)(left:Int)(h1: -1≤left)(h2:left≤1048576):a_ prog 89 [.h aa [],.v (iv left)] [.rt aa .ro (tr a)] (λy _=>y= .v (iv (g_ (Mk.wt a) left))):=by
 refine ob func89 ntmps89 ?_;have hw:Mk.wt a=a.length:=by rw[cX,kn (w:=Mk.wt) (λ_=>rfl)];rfl
 refine AW.len aa [] rfl (by simp[bT]) rfl (λhl=>?_);refine go [.R,.a,.Z,.R,.m,.m,.N,.h,.b,.a,.Z,.R2,.m,.N,.b,.Z] ?_;refine cd (λc1=>?_) λc1=>?_
 ·try simp only[ah]at c1
  refine go [.R,.a,.Z] ?_;refine aQ 4 ?_;simp only[bi,ax,reduceIte,Nat.reduceEqDiff,g_,hw];congr 2;omega
 try simp only[ah]at c1
 refine go [.J,.R,.m,.N,.a,.Z] ?_;refine aQ 4 ?_;simp only[bi,ax,reduceIte,Nat.reduceEqDiff,g_,hw];congr 2;omega
theorem tp(a:List (List cU))(left:Int)(h1: -1≤left)(h2:left≤1048576):a_ prog 19 [.h aa [],.v (iv left)] [.rt aa .ro (tr a)] (λy _=>y= .v (iv (g_ (Mk.wt a) left))):=by
 refine ob func19 ntmps19 ?_;have hw:Mk.wt a=a.length+mE Mk.wt a:=rfl;refine AW.len aa [] rfl (by simp[bT]) rfl (λhl=>?_);refine go [.R,.a,.Z,.R,.m,.m,.N,.h,.b,.a,.Z,.R2,.m,.N,.b,.Z] ?_;refine cd (λc1=>?_) λc1=>?_
 ·try simp only[ah]at c1
  refine go [.R,.a,.Z] ?_;refine aQ 4 ?_;simp only[bi,ax,reduceIte,Nat.reduceEqDiff]
  try have hi0:=i.nn
  have hcw:=dc a;have hz:=b7 (Mk.wt a) left
  try have hce:bD Mk.wt En.ab a i.k=bD Mk.wt En.ab a a.length:=by rw[show i.k=a.length by omega]
  congr 2;omega
 try simp only[ah]at c1
 refine jd (dq ?_);refine go [.a,.Z] ?_;refine AW.block ?_;refine AW.aL (λi:tW left a=>[.sl 5 (.v (iv i.k)),.sl 1 (.v (iv (left-a.length-(bD Mk.wt En.ab a i.k:Nat)))),.sl 0 (.h aa []),.rt aa .ro (tr a)]) (λi=>a.length-i.k) ⟨0,zero_le _,by simp only[bD];omega⟩ (ar.bb ⟨rfl,(by simp only[ax,reduceIte,Nat.reduceEqDiff];show X.v (iv (left-a.length))=_;simp[bD]),rfl,Rf rfl,trivial⟩ rfl rfl) ?_;intro i;have hle:=i.le;refine go [.R2,.m,.N,.m,.h,.b,.Z] ?_;refine cd (λc2=>?_) λc2=>?_
 ·try simp only[ah]at c2
  have hi0:=i.nn;have hcw:=dc a;have hc1:=dK (c:=Mk.wt) (d:=En.ab) (l:=a) (show i.k+1≤a.length by omega);simp only[bD]at hc1;have hz2:=b7 (Mk.wt (a.getD i.k En.ab)) (left-a.length-(bD Mk.wt En.ab a i.k:Nat));refine jd (AW.seq (AW.block (sr ?_)));refine go [.m,.N,.m,.i,.l,.N,.m] ?_;refine cv call89 rfl rfl (vw _ _ (by first|omega|(repeat (first|omega|apply dC))) (by first|omega|(repeat (first|omega|apply dE)))) ?_;refine go [.N,.a,.Z,.R,.m,.b,.Z] ?_;refine cd (λc3=>?_) λc3=>?_
  ·try simp only[ah]at c3
   refine go [.R,.a,.Z] ?_;refine aQ 4 ?_;simp only[bi,ax,reduceIte,Nat.reduceEqDiff]
   try have hi0:=i.nn
   have hcw:=dc a;have hz:=b7 (Mk.wt a) left
   try have hce:bD Mk.wt En.ab a i.k=bD Mk.wt En.ab a a.length:=by rw[show i.k=a.length by omega]
   congr 2;omega
  try simp only[ah]at c3
  refine go [.J,.R1,.m,.N,.b,.a,.Z] ?_;refine⟨⟨i.k+1,by omega,by simp only[bD];omega⟩,ar.bb ⟨ew,(by simp only[ax,reduceIte,Nat.reduceEqDiff];congr 2;simp only[bD];omega),rfl,Rf rfl,trivial⟩ rfl rfl,?_⟩;dsimp only;omega
 try simp only[ah]at c2
 refine AW.exit ?_;dsimp only[aD,au,reduceIte];refine go [.R,.m,.N,.a,.Z] ?_;refine aQ 4 ?_;simp only[bi,ax,reduceIte,Nat.reduceEqDiff]
 try have hi0:=i.nn
 have hcw:=dc a;have hz:=b7 (Mk.wt a) left
 try have hce:bD Mk.wt En.ab a i.k=bD Mk.wt En.ab a a.length:=by rw[show i.k=a.length by omega]
 congr 2;omega
theorem eL(a:List Int)(left:Int)(h1: -1≤left)(h2:left≤1048576):a_ prog 21 [.h aa [],.v (iv left)] [.rt aa .ro (tr a)] (λy _=>y= .v (iv (g_ (Mk.wt a) left))):=by
 refine ob func21 ntmps21 ?_;have hw:Mk.wt a=a.length:=by rw[cX,kn (w:=Mk.wt) (λ_=>rfl)];rfl
 refine AW.len aa [] rfl (by simp[bT]) rfl (λhl=>?_);refine go [.R,.a,.Z,.R,.m,.m,.N,.h,.b,.a,.Z,.R2,.m,.N,.b,.Z] ?_;refine cd (λc1=>?_) λc1=>?_
 ·try simp only[ah]at c1
  refine go [.R,.a,.Z] ?_;refine aQ 4 ?_;simp only[bi,ax,reduceIte,Nat.reduceEqDiff,g_,hw];congr 2;omega
 try simp only[ah]at c1
 refine go [.J,.R,.m,.N,.a,.Z] ?_;refine aQ 4 ?_;simp only[bi,ax,reduceIte,Nat.reduceEqDiff,g_,hw];congr 2;omega
theorem xP(a:oj)(left:Int)(h1: -1≤left)(h2:left≤1048576):a_ prog 164 [.g [.v (iv a.Pc),.h aa []],.v (iv left)] [.rt aa .ro (tr a.b_)] (λy _=>y= .v (iv (g_ (Mk.wt a) left))):=by
 refine ob func164 ntmps164 ?_;refine go [.R,.B,.N,.a,.Z,.R,.f,.l,.N,.m] ?_;refine cv call21 rfl rfl (eL _ _ (by first|omega|(repeat (first|omega|apply dC))) (by first|omega|(repeat (first|omega|apply dE)))) ?_;refine go [.N,.a,.Z,.R2,.m,.b,.Z] ?_;refine cd (λc1=>?_) λc1=>?_
 ·try simp only[ah]at c1
  refine go [.R,.a,.Z] ?_;refine aQ 4 ?_;simp only[bi,ax,reduceIte,Nat.reduceEqDiff]
  first|rfl|(congr 2;simp only[g_,Mk.wt]at *; omega)
 try simp only[ah]at c1
 refine go [.J,.R,.m,.N,.a,.Z] ?_;refine aQ 4 ?_;simp only[bi,ax,reduceIte,Nat.reduceEqDiff]
 first|rfl|(congr 2;simp only[g_,Mk.wt]at *; omega)
theorem s_(a:dy)(left:Int)(h1: -1≤left)(h2:left≤1048576):a_ prog 90 [.g [.v (iv a.ey),.v (iv a.bM),.v (iv a.State),.v (iv a.dX),.v (iv a.dh.Pc),.h aa [],.h (aa+1) [],.h (aa+2) [],.v (iv a.cJ),.v (iv a.Code)],.v (iv left)] [.rt aa .ro (tr a.dh.b_),.rt (aa+1) .ro (tr a.bf),.rt (aa+2) .ro (tr a.cH)] (λy _=>y= .v (iv (g_ (Mk.wt a) left))):=by
 refine ob func90 ntmps90 ?_;refine go [.R,.B,.N,.a,.Z,.R,.f,.G,.N,.m] ?_;refine cv call164 rfl rfl (xP _ _ (by first|omega|(repeat (first|omega|apply dC))) (by first|omega|(repeat (first|omega|apply dE)))) ?_;refine go [.N,.a,.Z,.R2,.m,.b,.Z] ?_;refine cd (λc1=>?_) λc1=>?_
 ·try simp only[ah]at c1
  refine go [.R,.a,.Z] ?_;refine aQ 4 ?_;simp only[bi,ax,reduceIte,Nat.reduceEqDiff]
  first|rfl|(congr 2;simp only[g_,Mk.wt]at *; omega)
 try simp only[ah]at c1
 refine go [.J,.R,.f,.N,.l,.m] ?_;refine cv call21 rfl rfl (eL _ _ (by first|omega|(repeat (first|omega|apply dC))) (by first|omega|(repeat (first|omega|apply dE)))) ?_;refine go [.N,.a,.Z,.R2,.m,.b,.Z] ?_;refine cd (λc2=>?_) λc2=>?_
 ·try simp only[ah]at c2
  refine go [.R,.a,.Z] ?_;refine aQ 4 ?_;simp only[bi,ax,reduceIte,Nat.reduceEqDiff]
  first|rfl|(congr 2;simp only[g_,Mk.wt]at *; omega)
 try simp only[ah]at c2
 refine go [.J,.R,.f,.N,.l,.m] ?_;refine cv call21 rfl rfl (eL _ _ (by first|omega|(repeat (first|omega|apply dC))) (by first|omega|(repeat (first|omega|apply dE)))) ?_;refine go [.N,.a,.Z,.R2,.m,.b,.Z] ?_;refine cd (λc3=>?_) λc3=>?_
 ·try simp only[ah]at c3
  refine go [.R,.a,.Z] ?_;refine aQ 4 ?_;simp only[bi,ax,reduceIte,Nat.reduceEqDiff]
  first|rfl|(congr 2;simp only[g_,Mk.wt]at *; omega)
 try simp only[ah]at c3
 refine go [.J,.R,.m,.N,.a,.Z] ?_;refine aQ 4 ?_;simp only[bi,ax,reduceIte,Nat.reduceEqDiff]
 first|rfl|(congr 2;simp only[g_,Mk.wt]at *; omega)
theorem ry(a:List dy)(left:Int)(h1: -1≤left)(h2:left≤1048576):a_ prog 20 [.h aa [],.v (iv left)] [.rt aa .ro (tr a)] (λy _=>y= .v (iv (g_ (Mk.wt a) left))):=by
 refine ob func20 ntmps20 ?_;have hw:Mk.wt a=a.length+mE Mk.wt a:=rfl;refine AW.len aa [] rfl (by simp[bT]) rfl (λhl=>?_);refine go [.R,.a,.Z,.R,.m,.m,.N,.h,.b,.a,.Z,.R2,.m,.N,.b,.Z] ?_;refine cd (λc1=>?_) λc1=>?_
 ·try simp only[ah]at c1
  refine go [.R,.a,.Z] ?_;refine aQ 4 ?_;simp only[bi,ax,reduceIte,Nat.reduceEqDiff]
  try have hi0:=i.nn
  have hcw:=dc a;have hz:=b7 (Mk.wt a) left
  try have hce:bD Mk.wt En.ab a i.k=bD Mk.wt En.ab a a.length:=by rw[show i.k=a.length by omega]
  congr 2;omega
 try simp only[ah]at c1
 refine jd (dq ?_);refine go [.a,.Z] ?_;refine AW.block ?_;refine AW.aL (λi:tW left a=>[.sl 5 (.v (iv i.k)),.sl 1 (.v (iv (left-a.length-(bD Mk.wt En.ab a i.k:Nat)))),.sl 0 (.h aa []),.rt aa .ro (tr a)]) (λi=>a.length-i.k) ⟨0,zero_le _,by simp only[bD];omega⟩ (ar.bb ⟨rfl,(by simp only[ax,reduceIte,Nat.reduceEqDiff];show X.v (iv (left-a.length))=_;simp[bD]),rfl,Rf rfl,trivial⟩ rfl rfl) ?_;intro i;have hle:=i.le;refine go [.R2,.m,.N,.m,.h,.b,.Z] ?_;refine cd (λc2=>?_) λc2=>?_
 ·try simp only[ah]at c2
  have hi0:=i.nn;have hcw:=dc a;have hc1:=dK (c:=Mk.wt) (d:=En.ab) (l:=a) (show i.k+1≤a.length by omega);simp only[bD]at hc1;have hz2:=b7 (Mk.wt (a.getD i.k En.ab)) (left-a.length-(bD Mk.wt En.ab a i.k:Nat));refine jd (AW.seq (AW.block (sr ?_)));refine go [.m,.N,.m,.i,.G,.N,.m] ?_;refine cv call90 rfl rfl (s_ _ _ (by first|omega|(repeat (first|omega|apply dC))) (by first|omega|(repeat (first|omega|apply dE)))) ?_;refine go [.N,.a,.Z,.R,.m,.b,.Z] ?_;refine cd (λc3=>?_) λc3=>?_
  ·try simp only[ah]at c3
   refine go [.R,.a,.Z] ?_;refine aQ 4 ?_;simp only[bi,ax,reduceIte,Nat.reduceEqDiff]
   try have hi0:=i.nn
   have hcw:=dc a;have hz:=b7 (Mk.wt a) left
   try have hce:bD Mk.wt En.ab a i.k=bD Mk.wt En.ab a a.length:=by rw[show i.k=a.length by omega]
   congr 2;omega
  try simp only[ah]at c3
  refine go [.J,.R1,.m,.N,.b,.a,.Z] ?_;refine⟨⟨i.k+1,by omega,by simp only[bD];omega⟩,ar.bb ⟨ew,(by simp only[ax,reduceIte,Nat.reduceEqDiff];congr 2;simp only[bD];omega),rfl,Rf rfl,trivial⟩ rfl rfl,?_⟩;dsimp only;omega
 try simp only[ah]at c2
 refine AW.exit ?_;dsimp only[aD,au,reduceIte];refine go [.R,.m,.N,.a,.Z] ?_;refine aQ 4 ?_;simp only[bi,ax,reduceIte,Nat.reduceEqDiff]
 try have hi0:=i.nn
 have hcw:=dc a;have hz:=b7 (Mk.wt a) left
 try have hce:bD Mk.wt En.ab a i.k=bD Mk.wt En.ab a a.length:=by rw[show i.k=a.length by omega]
 congr 2;omega
theorem nw(a:List (List Int))(left:Int)(h1: -1≤left)(h2:left≤1048576):a_ prog 91 [.h aa [],.v (iv left)] [.rt aa .ro (tr a)] (λy _=>y= .v (iv (g_ (Mk.wt a) left))):=by
 refine ob func91 ntmps91 ?_;have hw:Mk.wt a=a.length+mE Mk.wt a:=rfl;refine AW.len aa [] rfl (by simp[bT]) rfl (λhl=>?_);refine go [.R,.a,.Z,.R,.m,.m,.N,.h,.b,.a,.Z,.R2,.m,.N,.b,.Z] ?_;refine cd (λc1=>?_) λc1=>?_
 ·try simp only[ah]at c1
  refine go [.R,.a,.Z] ?_;refine aQ 4 ?_;simp only[bi,ax,reduceIte,Nat.reduceEqDiff]
  try have hi0:=i.nn
  have hcw:=dc a;have hz:=b7 (Mk.wt a) left
  try have hce:bD Mk.wt En.ab a i.k=bD Mk.wt En.ab a a.length:=by rw[show i.k=a.length by omega]
  congr 2;omega
 try simp only[ah]at c1
 refine jd (dq ?_);refine go [.a,.Z] ?_;refine AW.block ?_;refine AW.aL (λi:tW left a=>[.sl 5 (.v (iv i.k)),.sl 1 (.v (iv (left-a.length-(bD Mk.wt En.ab a i.k:Nat)))),.sl 0 (.h aa []),.rt aa .ro (tr a)]) (λi=>a.length-i.k) ⟨0,zero_le _,by simp only[bD];omega⟩ (ar.bb ⟨rfl,(by simp only[ax,reduceIte,Nat.reduceEqDiff];show X.v (iv (left-a.length))=_;simp[bD]),rfl,Rf rfl,trivial⟩ rfl rfl) ?_;intro i;have hle:=i.le;refine go [.R2,.m,.N,.m,.h,.b,.Z] ?_;refine cd (λc2=>?_) λc2=>?_
 ·try simp only[ah]at c2
  have hi0:=i.nn;have hcw:=dc a;have hc1:=dK (c:=Mk.wt) (d:=En.ab) (l:=a) (show i.k+1≤a.length by omega);simp only[bD]at hc1;have hz2:=b7 (Mk.wt (a.getD i.k En.ab)) (left-a.length-(bD Mk.wt En.ab a i.k:Nat));refine jd (AW.seq (AW.block (sr ?_)));refine go [.m,.N,.m,.i,.l,.N,.m] ?_;refine cv call21 rfl rfl (eL _ _ (by first|omega|(repeat (first|omega|apply dC))) (by first|omega|(repeat (first|omega|apply dE)))) ?_;refine go [.N,.a,.Z,.R,.m,.b,.Z] ?_;refine cd (λc3=>?_) λc3=>?_
  ·try simp only[ah]at c3
   refine go [.R,.a,.Z] ?_;refine aQ 4 ?_;simp only[bi,ax,reduceIte,Nat.reduceEqDiff]
   try have hi0:=i.nn
   have hcw:=dc a;have hz:=b7 (Mk.wt a) left
   try have hce:bD Mk.wt En.ab a i.k=bD Mk.wt En.ab a a.length:=by rw[show i.k=a.length by omega]
   congr 2;omega
  try simp only[ah]at c3
  refine go [.J,.R1,.m,.N,.b,.a,.Z] ?_;refine⟨⟨i.k+1,by omega,by simp only[bD];omega⟩,ar.bb ⟨ew,(by simp only[ax,reduceIte,Nat.reduceEqDiff];congr 2;simp only[bD];omega),rfl,Rf rfl,trivial⟩ rfl rfl,?_⟩;dsimp only;omega
 try simp only[ah]at c2
 refine AW.exit ?_;dsimp only[aD,au,reduceIte];refine go [.R,.m,.N,.a,.Z] ?_;refine aQ 4 ?_;simp only[bi,ax,reduceIte,Nat.reduceEqDiff]
 try have hi0:=i.nn
 have hcw:=dc a;have hz:=b7 (Mk.wt a) left
 try have hce:bD Mk.wt En.ab a i.k=bD Mk.wt En.ab a a.length:=by rw[show i.k=a.length by omega]
 congr 2;omega
theorem tJ(a:gC)(left:Int)(h1: -1≤left)(h2:left≤1048576):a_ prog 22 [.g [.h aa []],.v (iv left)] [.rt aa .ro (tr a.aZ)] (λy _=>y= .v (iv (g_ (Mk.wt a) left))):=by
 refine ob func22 ntmps22 ?_;refine go [.R,.B,.N,.a,.Z,.R,.f,.l,.N,.m] ?_;refine cv call91 rfl rfl (nw _ _ (by first|omega|(repeat (first|omega|apply dC))) (by first|omega|(repeat (first|omega|apply dE)))) ?_;refine go [.N,.a,.Z,.R2,.m,.b,.Z] ?_;refine cd (λc1=>?_) λc1=>?_
 ·try simp only[ah]at c1
  refine go [.R,.a,.Z] ?_;refine aQ 4 ?_;simp only[bi,ax,reduceIte,Nat.reduceEqDiff]
  first|rfl|(congr 2;simp only[g_,Mk.wt]at *; omega)
 try simp only[ah]at c1
 refine go [.J,.R,.m,.N,.a,.Z] ?_;refine aQ 4 ?_;simp only[bi,ax,reduceIte,Nat.reduceEqDiff]
 first|rfl|(congr 2;simp only[g_,Mk.wt]at *; omega)
theorem tH(a:List az)(left:Int)(h1: -1≤left)(h2:left≤1048576):a_ prog 23 [.h aa [],.v (iv left)] [.rt aa .ro (tr a)] (λy _=>y= .v (iv (g_ (Mk.wt a) left))):=by
 refine ob func23 ntmps23 ?_;have hw:Mk.wt a=a.length:=by rw[cX,kn (w:=Mk.wt) (λ_=>rfl)];rfl
 refine AW.len aa [] rfl (by simp[bT]) rfl (λhl=>?_);refine go [.R,.a,.Z,.R,.m,.m,.N,.h,.b,.a,.Z,.R2,.m,.N,.b,.Z] ?_;refine cd (λc1=>?_) λc1=>?_
 ·try simp only[ah]at c1
  refine go [.R,.a,.Z] ?_;refine aQ 4 ?_;simp only[bi,ax,reduceIte,Nat.reduceEqDiff,g_,hw];congr 2;omega
 try simp only[ah]at c1
 refine go [.J,.R,.m,.N,.a,.Z] ?_;refine aQ 4 ?_;simp only[bi,ax,reduceIte,Nat.reduceEqDiff,g_,hw];congr 2;omega
theorem tS(a:dd)(left:Int)(h1: -1≤left)(h2:left≤1048576):a_ prog 92 [.g [.v (iv a.Id),.h aa []],.v (iv left)] [.rt aa .ro (tr a.bo)] (λy _=>y= .v (iv (g_ (Mk.wt a) left))):=by
 refine ob func92 ntmps92 ?_;refine go [.R,.B,.N,.a,.Z,.R,.f,.l,.N,.m] ?_;refine cv call91 rfl rfl (nw _ _ (by first|omega|(repeat (first|omega|apply dC))) (by first|omega|(repeat (first|omega|apply dE)))) ?_;refine go [.N,.a,.Z,.R2,.m,.b,.Z] ?_;refine cd (λc1=>?_) λc1=>?_
 ·try simp only[ah]at c1
  refine go [.R,.a,.Z] ?_;refine aQ 4 ?_;simp only[bi,ax,reduceIte,Nat.reduceEqDiff]
  first|rfl|(congr 2;simp only[g_,Mk.wt]at *; omega)
 try simp only[ah]at c1
 refine go [.J,.R,.m,.N,.a,.Z] ?_;refine aQ 4 ?_;simp only[bi,ax,reduceIte,Nat.reduceEqDiff]
 first|rfl|(congr 2;simp only[g_,Mk.wt]at *; omega)
theorem so(a:List dd)(left:Int)(h1: -1≤left)(h2:left≤1048576):a_ prog 24 [.h aa [],.v (iv left)] [.rt aa .ro (tr a)] (λy _=>y= .v (iv (g_ (Mk.wt a) left))):=by
 refine ob func24 ntmps24 ?_;have hw:Mk.wt a=a.length+mE Mk.wt a:=rfl;refine AW.len aa [] rfl (by simp[bT]) rfl (λhl=>?_);refine go [.R,.a,.Z,.R,.m,.m,.N,.h,.b,.a,.Z,.R2,.m,.N,.b,.Z] ?_;refine cd (λc1=>?_) λc1=>?_
 ·try simp only[ah]at c1
  refine go [.R,.a,.Z] ?_;refine aQ 4 ?_;simp only[bi,ax,reduceIte,Nat.reduceEqDiff]
  try have hi0:=i.nn
  have hcw:=dc a;have hz:=b7 (Mk.wt a) left
  try have hce:bD Mk.wt En.ab a i.k=bD Mk.wt En.ab a a.length:=by rw[show i.k=a.length by omega]
  congr 2;omega
 try simp only[ah]at c1
 refine jd (dq ?_);refine go [.a,.Z] ?_;refine AW.block ?_;refine AW.aL (λi:tW left a=>[.sl 5 (.v (iv i.k)),.sl 1 (.v (iv (left-a.length-(bD Mk.wt En.ab a i.k:Nat)))),.sl 0 (.h aa []),.rt aa .ro (tr a)]) (λi=>a.length-i.k) ⟨0,zero_le _,by simp only[bD];omega⟩ (ar.bb ⟨rfl,(by simp only[ax,reduceIte,Nat.reduceEqDiff];show X.v (iv (left-a.length))=_;simp[bD]),rfl,Rf rfl,trivial⟩ rfl rfl) ?_;intro i;have hle:=i.le;refine go [.R2,.m,.N,.m,.h,.b,.Z] ?_;refine cd (λc2=>?_) λc2=>?_
 ·try simp only[ah]at c2
  have hi0:=i.nn;have hcw:=dc a;have hc1:=dK (c:=Mk.wt) (d:=En.ab) (l:=a) (show i.k+1≤a.length by omega);simp only[bD]at hc1;have hz2:=b7 (Mk.wt (a.getD i.k En.ab)) (left-a.length-(bD Mk.wt En.ab a i.k:Nat));refine jd (AW.seq (AW.block (sr ?_)));refine go [.m,.N,.m,.i,.G,.N,.m] ?_;refine cv call92 rfl rfl (tS _ _ (by first|omega|(repeat (first|omega|apply dC))) (by first|omega|(repeat (first|omega|apply dE)))) ?_;refine go [.N,.a,.Z,.R,.m,.b,.Z] ?_;refine cd (λc3=>?_) λc3=>?_
  ·try simp only[ah]at c3
   refine go [.R,.a,.Z] ?_;refine aQ 4 ?_;simp only[bi,ax,reduceIte,Nat.reduceEqDiff]
   try have hi0:=i.nn
   have hcw:=dc a;have hz:=b7 (Mk.wt a) left
   try have hce:bD Mk.wt En.ab a i.k=bD Mk.wt En.ab a a.length:=by rw[show i.k=a.length by omega]
   congr 2;omega
  try simp only[ah]at c3
  refine go [.J,.R1,.m,.N,.b,.a,.Z] ?_;refine⟨⟨i.k+1,by omega,by simp only[bD];omega⟩,ar.bb ⟨ew,(by simp only[ax,reduceIte,Nat.reduceEqDiff];congr 2;simp only[bD];omega),rfl,Rf rfl,trivial⟩ rfl rfl,?_⟩;dsimp only;omega
 try simp only[ah]at c2
 refine AW.exit ?_;dsimp only[aD,au,reduceIte];refine go [.R,.m,.N,.a,.Z] ?_;refine aQ 4 ?_;simp only[bi,ax,reduceIte,Nat.reduceEqDiff]
 try have hi0:=i.nn
 have hcw:=dc a;have hz:=b7 (Mk.wt a) left
 try have hce:bD Mk.wt En.ab a i.k=bD Mk.wt En.ab a a.length:=by rw[show i.k=a.length by omega]
 congr 2;omega
theorem wm(a:ca)(left:Int)(h1: -1≤left)(h2:left≤1048576):a_ prog 93 [.g [.v (iv a.Name),.h aa []],.v (iv left)] [.rt aa .ro (tr a.Data)] (λy _=>y= .v (iv (g_ (Mk.wt a) left))):=by
 refine ob func93 ntmps93 ?_;refine go [.R,.B,.N,.a,.Z,.R,.f,.l,.N,.m] ?_;refine cv call21 rfl rfl (eL _ _ (by first|omega|(repeat (first|omega|apply dC))) (by first|omega|(repeat (first|omega|apply dE)))) ?_;refine go [.N,.a,.Z,.R2,.m,.b,.Z] ?_;refine cd (λc1=>?_) λc1=>?_
 ·try simp only[ah]at c1
  refine go [.R,.a,.Z] ?_;refine aQ 4 ?_;simp only[bi,ax,reduceIte,Nat.reduceEqDiff]
  first|rfl|(congr 2;simp only[g_,Mk.wt]at *; omega)
 try simp only[ah]at c1
 refine go [.J,.R,.m,.N,.a,.Z] ?_;refine aQ 4 ?_;simp only[bi,ax,reduceIte,Nat.reduceEqDiff]
 first|rfl|(congr 2;simp only[g_,Mk.wt]at *; omega)
theorem tK(a:List ca)(left:Int)(h1: -1≤left)(h2:left≤1048576):a_ prog 25 [.h aa [],.v (iv left)] [.rt aa .ro (tr a)] (λy _=>y= .v (iv (g_ (Mk.wt a) left))):=by
 refine ob func25 ntmps25 ?_;have hw:Mk.wt a=a.length+mE Mk.wt a:=rfl;refine AW.len aa [] rfl (by simp[bT]) rfl (λhl=>?_);refine go [.R,.a,.Z,.R,.m,.m,.N,.h,.b,.a,.Z,.R2,.m,.N,.b,.Z] ?_;refine cd (λc1=>?_) λc1=>?_
 ·try simp only[ah]at c1
  refine go [.R,.a,.Z] ?_;refine aQ 4 ?_;simp only[bi,ax,reduceIte,Nat.reduceEqDiff]
  try have hi0:=i.nn
  have hcw:=dc a;have hz:=b7 (Mk.wt a) left
  try have hce:bD Mk.wt En.ab a i.k=bD Mk.wt En.ab a a.length:=by rw[show i.k=a.length by omega]
  congr 2;omega
 try simp only[ah]at c1
 refine jd (dq ?_);refine go [.a,.Z] ?_;refine AW.block ?_;refine AW.aL (λi:tW left a=>[.sl 5 (.v (iv i.k)),.sl 1 (.v (iv (left-a.length-(bD Mk.wt En.ab a i.k:Nat)))),.sl 0 (.h aa []),.rt aa .ro (tr a)]) (λi=>a.length-i.k) ⟨0,zero_le _,by simp only[bD];omega⟩ (ar.bb ⟨rfl,(by simp only[ax,reduceIte,Nat.reduceEqDiff];show X.v (iv (left-a.length))=_;simp[bD]),rfl,Rf rfl,trivial⟩ rfl rfl) ?_;intro i;have hle:=i.le;refine go [.R2,.m,.N,.m,.h,.b,.Z] ?_;refine cd (λc2=>?_) λc2=>?_
 ·try simp only[ah]at c2
  have hi0:=i.nn;have hcw:=dc a;have hc1:=dK (c:=Mk.wt) (d:=En.ab) (l:=a) (show i.k+1≤a.length by omega);simp only[bD]at hc1;have hz2:=b7 (Mk.wt (a.getD i.k En.ab)) (left-a.length-(bD Mk.wt En.ab a i.k:Nat));refine jd (AW.seq (AW.block (sr ?_)));refine go [.m,.N,.m,.i,.G,.N,.m] ?_;refine cv call93 rfl rfl (wm _ _ (by first|omega|(repeat (first|omega|apply dC))) (by first|omega|(repeat (first|omega|apply dE)))) ?_;refine go [.N,.a,.Z,.R,.m,.b,.Z] ?_;refine cd (λc3=>?_) λc3=>?_
  ·try simp only[ah]at c3
   refine go [.R,.a,.Z] ?_;refine aQ 4 ?_;simp only[bi,ax,reduceIte,Nat.reduceEqDiff]
   try have hi0:=i.nn
   have hcw:=dc a;have hz:=b7 (Mk.wt a) left
   try have hce:bD Mk.wt En.ab a i.k=bD Mk.wt En.ab a a.length:=by rw[show i.k=a.length by omega]
   congr 2;omega
  try simp only[ah]at c3
  refine go [.J,.R1,.m,.N,.b,.a,.Z] ?_;refine⟨⟨i.k+1,by omega,by simp only[bD];omega⟩,ar.bb ⟨ew,(by simp only[ax,reduceIte,Nat.reduceEqDiff];congr 2;simp only[bD];omega),rfl,Rf rfl,trivial⟩ rfl rfl,?_⟩;dsimp only;omega
 try simp only[ah]at c2
 refine AW.exit ?_;dsimp only[aD,au,reduceIte];refine go [.R,.m,.N,.a,.Z] ?_;refine aQ 4 ?_;simp only[bi,ax,reduceIte,Nat.reduceEqDiff]
 try have hi0:=i.nn
 have hcw:=dc a;have hz:=b7 (Mk.wt a) left
 try have hce:bD Mk.wt En.ab a i.k=bD Mk.wt En.ab a a.length:=by rw[show i.k=a.length by omega]
 congr 2;omega
theorem tI(a:bC)(left:Int)(h1: -1≤left)(h2:left≤1048576):a_ prog 6 [.g [.v (iv a.Next),.v (iv a.bp),.h aa [],.h (aa+1) [],.h (aa+2) [],.h (aa+3) [],.h (aa+4) [],.h (aa+5) [],.h (aa+6) [],.h (aa+7) [],.h (aa+8) []],.v (iv left)] [.rt aa .ro (tr a.aP),.rt (aa+1) .ro (tr a.ag),.rt (aa+2) .ro (tr a.fx),.rt (aa+3) .ro (tr a.Heap.aZ),.rt (aa+4) .ro (tr a.ao),.rt (aa+5) .ro (tr a.ak),.rt (aa+6) .ro (tr a.ay),.rt (aa+7) .ro (tr a.aN),.rt (aa+8) .ro (tr a.Out)] (λy _=>y= .v (iv (g_ (Mk.wt a) left))):=by
 refine ob func6 ntmps6 ?_;refine go [.R,.B,.N,.a,.Z,.R,.f,.l,.N,.m] ?_;refine cv call19 rfl rfl (tp _ _ (by first|omega|(repeat (first|omega|apply dC))) (by first|omega|(repeat (first|omega|apply dE)))) ?_;refine go [.N,.a,.Z,.R2,.m,.b,.Z] ?_;refine cd (λc1=>?_) λc1=>?_
 ·try simp only[ah]at c1
  refine go [.R,.a,.Z] ?_;refine aQ 4 ?_;simp only[bi,ax,reduceIte,Nat.reduceEqDiff]
  first|rfl|(congr 2;simp only[g_,Mk.wt]at *; omega)
 try simp only[ah]at c1
 refine go [.J,.R,.f,.N,.l,.m] ?_;refine cv call20 rfl rfl (ry _ _ (by first|omega|(repeat (first|omega|apply dC))) (by first|omega|(repeat (first|omega|apply dE)))) ?_;refine go [.N,.a,.Z,.R2,.m,.b,.Z] ?_;refine cd (λc2=>?_) λc2=>?_
 ·try simp only[ah]at c2
  refine go [.R,.a,.Z] ?_;refine aQ 4 ?_;simp only[bi,ax,reduceIte,Nat.reduceEqDiff]
  first|rfl|(congr 2;simp only[g_,Mk.wt]at *; omega)
 try simp only[ah]at c2
 refine go [.J,.R,.f,.N,.l,.m] ?_;refine cv call21 rfl rfl (eL _ _ (by first|omega|(repeat (first|omega|apply dC))) (by first|omega|(repeat (first|omega|apply dE)))) ?_;refine go [.N,.a,.Z,.R2,.m,.b,.Z] ?_;refine cd (λc3=>?_) λc3=>?_
 ·try simp only[ah]at c3
  refine go [.R,.a,.Z] ?_;refine aQ 4 ?_;simp only[bi,ax,reduceIte,Nat.reduceEqDiff]
  first|rfl|(congr 2;simp only[g_,Mk.wt]at *; omega)
 try simp only[ah]at c3
 refine go [.J,.R,.f,.N,.G,.m] ?_;refine cv call22 rfl rfl (tJ _ _ (by first|omega|(repeat (first|omega|apply dC))) (by first|omega|(repeat (first|omega|apply dE)))) ?_;refine go [.N,.a,.Z,.R2,.m,.b,.Z] ?_;refine cd (λc4=>?_) λc4=>?_
 ·try simp only[ah]at c4
  refine go [.R,.a,.Z] ?_;refine aQ 4 ?_;simp only[bi,ax,reduceIte,Nat.reduceEqDiff]
  first|rfl|(congr 2;simp only[g_,Mk.wt]at *; omega)
 try simp only[ah]at c4
 refine go [.J,.R,.f,.N,.l,.m] ?_;refine cv call23 rfl rfl (tH _ _ (by first|omega|(repeat (first|omega|apply dC))) (by first|omega|(repeat (first|omega|apply dE)))) ?_;refine go [.N,.a,.Z,.R2,.m,.b,.Z] ?_;refine cd (λc5=>?_) λc5=>?_
 ·try simp only[ah]at c5
  refine go [.R,.a,.Z] ?_;refine aQ 4 ?_;simp only[bi,ax,reduceIte,Nat.reduceEqDiff]
  first|rfl|(congr 2;simp only[g_,Mk.wt]at *; omega)
 try simp only[ah]at c5
 refine go [.J,.R,.f,.N,.l,.m] ?_;refine cv call24 rfl rfl (so _ _ (by first|omega|(repeat (first|omega|apply dC))) (by first|omega|(repeat (first|omega|apply dE)))) ?_;refine go [.N,.a,.Z,.R2,.m,.b,.Z] ?_;refine cd (λc6=>?_) λc6=>?_
 ·try simp only[ah]at c6
  refine go [.R,.a,.Z] ?_;refine aQ 4 ?_;simp only[bi,ax,reduceIte,Nat.reduceEqDiff]
  first|rfl|(congr 2;simp only[g_,Mk.wt]at *; omega)
 try simp only[ah]at c6
 refine go [.J,.R,.f,.N,.l,.m] ?_;refine cv call25 rfl rfl (tK _ _ (by first|omega|(repeat (first|omega|apply dC))) (by first|omega|(repeat (first|omega|apply dE)))) ?_;refine go [.N,.a,.Z,.R2,.m,.b,.Z] ?_;refine cd (λc7=>?_) λc7=>?_
 ·try simp only[ah]at c7
  refine go [.R,.a,.Z] ?_;refine aQ 4 ?_;simp only[bi,ax,reduceIte,Nat.reduceEqDiff]
  first|rfl|(congr 2;simp only[g_,Mk.wt]at *; omega)
 try simp only[ah]at c7
 refine go [.J,.R,.f,.N,.l,.m] ?_;refine cv call21 rfl rfl (eL _ _ (by first|omega|(repeat (first|omega|apply dC))) (by first|omega|(repeat (first|omega|apply dE)))) ?_;refine go [.N,.a,.Z,.R2,.m,.b,.Z] ?_;refine cd (λc8=>?_) λc8=>?_
 ·try simp only[ah]at c8
  refine go [.R,.a,.Z] ?_;refine aQ 4 ?_;simp only[bi,ax,reduceIte,Nat.reduceEqDiff]
  first|rfl|(congr 2;simp only[g_,Mk.wt]at *; omega)
 try simp only[ah]at c8
 refine go [.J,.R,.f,.N,.l,.m] ?_;refine cv call21 rfl rfl (eL _ _ (by first|omega|(repeat (first|omega|apply dC))) (by first|omega|(repeat (first|omega|apply dE)))) ?_;refine go [.N,.a,.Z,.R2,.m,.b,.Z] ?_;refine cd (λc9=>?_) λc9=>?_
 ·try simp only[ah]at c9
  refine go [.R,.a,.Z] ?_;refine aQ 4 ?_;simp only[bi,ax,reduceIte,Nat.reduceEqDiff]
  first|rfl|(congr 2;simp only[g_,Mk.wt]at *; omega)
 try simp only[ah]at c9
 refine go [.J,.R,.m,.N,.a,.Z] ?_;refine aQ 4 ?_;simp only[bi,ax,reduceIte,Nat.reduceEqDiff]
 first|rfl|(congr 2;simp only[g_,Mk.wt]at *; omega)
theorem ye(a:cU):a_ prog 165 [.g [.v (iv a.Op),.v (iv a.A),.v (iv a.B),.v (iv a.C)]] [] (j6 (.g [.v (iv a.Op),.v (iv a.A),.v (iv a.B),.v (iv a.C)]) []):=by
 refine ob func165 ntmps165 ?_;refine go [.R,.B,.N,.A,.Z,.R,.A,.Z,.R,.f,.N,.l,.f,.s,.Z,.R,.f,.N,.l,.f,.s,.Z,.R,.f,.N,.l,.f,.s,.Z,.R,.f,.N,.l,.f,.s,.Z,.R,.G,.N,.s,.Z] ?_;refine AW.ret (ct (.cons (.jf 2 156 rfl rfl rfl By BC (by decide)) .nil) ?_);refine⟨λ_=>0,rfl,aj rfl,?_⟩;intro r hr;cases hr
theorem vF(a:List cU)(hw:Mk.wt a≤1048576):a_ prog 102 [.h aa []] [.rt aa .ro (tr a)] (j6 (.h 0 []) [(0,.row,tr a)]):=by
 refine ob func102 ntmps102 ?_;have hw2:a.length+mE Mk.wt a≤1048576:=hw;refine go [.R,.a,.Z,.R,.m,.h,.N] ?_;refine sp (aE.makeSlice rfl (by decide) (by decide) rfl rfl (by omega) (by omega) (by omega)) ?_;refine go [.N,.a,.Z,.R2,.a,.Z] ?_;refine AW.block ?_;refine AW.aL (λi:cV a.length=>[.sl 4 (.v (iv i.k)),.sl 3 (.h 7 []),.sl 0 (.h aa []),.rt 7 .row (jY i.k a.length (λj=>a.getD j En.ab) λ_=>En.ab),.rt aa .ro (tr a)]) (λi=>a.length-i.k) ⟨0,zero_le _⟩ (ar.bb ⟨rfl,rfl,rfl,⟨_,rfl,(en rfl (λc hc=>match c,hc with|0,_=>aw|1,_=>aw|2,_=>aw|3,_=>aw|c+4,hc=>absurd hc (by simp only[En.n];omega)))⟩,Rf rfl,trivial⟩ rfl rfl) ?_;intro i;have hle:=i.le;refine go [.R2,.m,.N,.m,.h,.b,.Z] ?_;refine cd (λc1=>?_) λc1=>?_
 ·try simp only[ah]at c1
  have hwk:=fN (w:=Mk.wt) (d:=En.ab) (l:=a) (i:=i.k) (by omega);refine jd (AW.seq (AW.block (AW.region ?_)));refine go [.m,.N,.m,.m,.m,.N,.i,.G] ?_;refine sp (aE.bP rfl (by decide) call165 rfl rfl (ye _) (aj rfl) rfl rfl) ?_;refine go [.N,.i,.s,.Z,.R1,.m,.N,.b,.a,.Z] ?_;refine⟨⟨i.k+1,by omega⟩,ar.bb ⟨ew,rfl,rfl,⟨_,rfl,eN (λi c hi=>by simp only[ai,hi,false_and,if_false];rfl) (λc hc=>match c,hc with|0,_=>(by simp only[ai,eq_self,and_true,and_false,Nat.reduceEqDiff,if_true,if_false];exact aw)|1,_=>(by simp only[ai,eq_self,and_true,and_false,Nat.reduceEqDiff,if_true,if_false];exact aw)|2,_=>(by simp only[ai,eq_self,and_true,and_false,Nat.reduceEqDiff,if_true,if_false];exact aw)|3,_=>(by simp only[ai,eq_self,and_true,and_false,Nat.reduceEqDiff,if_true,if_false];exact aw)|c+4,hc=>absurd hc (by simp only[En.n];omega))⟩,Rf rfl,trivial⟩ rfl rfl,?_⟩;dsimp only;omega
 try simp only[ah]at c1
 refine AW.exit ?_;dsimp only[aD,au,reduceIte];refine go [.R,.m,.N,.a,.Z] ?_;refine AW.bS (L':=[.rt 7 .row (tr a),.sl 2 (.h 7 [])]) (ar.bb ⟨⟨_,rfl,eW (by omega) rfl (λ_ _=>rfl)⟩,rfl,trivial⟩ rfl rfl) ?_;refine aQ 2 ?_;refine⟨λ_=>7,rfl,aj rfl,?_⟩;intro r hr;cases List.mem_singleton.1 hr;exact⟨by simp,aq rfl⟩
theorem uI(a:List (List cU))(hw:Mk.wt a≤1048576):a_ prog 28 [.h aa []] [.rt aa .ro (tr a)] (j6 (.h 0 []) [(0,.row,tr a)]):=by
 refine ob func28 ntmps28 ?_;have hw2:a.length+mE Mk.wt a≤1048576:=hw;refine go [.R,.a,.Z,.R,.m,.h,.N] ?_;refine sp (aE.makeSlice rfl (by decide) (by decide) rfl rfl (by omega) (by omega) (by omega)) ?_;refine go [.N,.a,.Z,.R2,.a,.Z] ?_;refine AW.block ?_;refine AW.aL (λi:cV a.length=>[.sl 4 (.v (iv i.k)),.sl 3 (.h 7 []),.sl 0 (.h aa []),.rt 7 .row (jY i.k a.length (λj=>a.getD j En.ab) λ_=>En.ab),.rt aa .ro (tr a)]) (λi=>a.length-i.k) ⟨0,zero_le _⟩ (ar.bb ⟨rfl,rfl,rfl,⟨_,rfl,(en rfl (λc hc=>match c,hc with|0,_=>bK|c+1,hc=>absurd hc (by simp only[En.n];omega)))⟩,Rf rfl,trivial⟩ rfl rfl) ?_;intro i;have hle:=i.le;refine go [.R2,.m,.N,.m,.h,.b,.Z] ?_;refine cd (λc1=>?_) λc1=>?_
 ·try simp only[ah]at c1
  have hwk:=fN (w:=Mk.wt) (d:=En.ab) (l:=a) (i:=i.k) (by omega);refine jd (AW.seq (AW.block (AW.region ?_)));refine go [.m,.N,.m,.m,.m,.N,.i,.l] ?_;refine sp (aE.bP rfl (by decide) call102 rfl rfl (vF _ (by first|omega|(simp only[Int.toNat_natCast];omega)|(simp only[Mk.wt]at *; omega))) (aj rfl) rfl rfl) ?_;refine go [.N,.i,.s,.Z,.R1,.m,.N,.b,.a,.Z] ?_;refine⟨⟨i.k+1,by omega⟩,ar.bb ⟨ew,rfl,rfl,⟨_,rfl,eN (λi c hi=>by simp only[ai,hi,false_and,if_false];rfl) (λc hc=>match c,hc with|0,_=>(by simp only[ai,eq_self,and_true,and_false,Nat.reduceEqDiff,if_true,if_false];exact aw)|c+1,hc=>absurd hc (by simp only[En.n];omega))⟩,Rf rfl,trivial⟩ rfl rfl,?_⟩;dsimp only;omega
 try simp only[ah]at c1
 refine AW.exit ?_;dsimp only[aD,au,reduceIte];refine go [.R,.m,.N,.a,.Z] ?_;refine AW.bS (L':=[.rt 7 .row (tr a),.sl 2 (.h 7 [])]) (ar.bb ⟨⟨_,rfl,eW (by omega) rfl (λ_ _=>rfl)⟩,rfl,trivial⟩ rfl rfl) ?_;refine aQ 2 ?_;refine⟨λ_=>7,rfl,aj rfl,?_⟩;intro r hr;cases List.mem_singleton.1 hr;exact⟨by simp,aq rfl⟩
theorem eZ(a:List Int)(hw:Mk.wt a≤1048576):a_ prog 30 [.h aa []] [.rt aa .ro (tr a)] (j6 (.h 0 []) [(0,.row,tr a)]):=by
 refine ob func30 ntmps30 ?_;have hw2:a.length+mE Mk.wt a≤1048576:=hw;refine go [.R,.a,.Z,.R,.m,.h,.N] ?_;refine sp (aE.makeSlice rfl (by decide) (by decide) rfl rfl (by omega) (by omega) (by omega)) ?_;refine go [.N,.a,.Z,.R2,.a,.Z] ?_;refine AW.block ?_;refine AW.aL (λi:cV a.length=>[.sl 4 (.v (iv i.k)),.sl 3 (.h 7 []),.sl 0 (.h aa []),.rt 7 .row (jY i.k a.length (λj=>a.getD j En.ab) λ_=>En.ab),.rt aa .ro (tr a)]) (λi=>a.length-i.k) ⟨0,zero_le _⟩ (ar.bb ⟨rfl,rfl,rfl,⟨_,rfl,(en rfl (λc hc=>match c,hc with|0,_=>aw|c+1,hc=>absurd hc (by simp only[En.n];omega)))⟩,Rf rfl,trivial⟩ rfl rfl) ?_;intro i;have hle:=i.le;refine go [.R2,.m,.N,.m,.h,.b,.Z] ?_;refine cd (λc1=>?_) λc1=>?_
 ·try simp only[ah]at c1
  have hwk:=fN (w:=Mk.wt) (d:=En.ab) (l:=a) (i:=i.k) (by omega);refine jd (AW.seq (AW.block (AW.region ?_)));refine go [.m,.N,.m,.m,.m,.N,.i,.l,.i,.N,.s,.Z,.R1,.m,.N,.b,.a,.Z] ?_;refine⟨⟨i.k+1,by omega⟩,ar.bb ⟨ew,rfl,rfl,⟨_,rfl,eN (λi c hi=>by simp only[ai,hi,false_and,if_false];rfl) (λc hc=>match c,hc with|0,_=>(by simp only[ai,eq_self,and_true,and_false,Nat.reduceEqDiff,if_true,if_false];exact aw)|c+1,hc=>absurd hc (by simp only[En.n];omega))⟩,Rf rfl,trivial⟩ rfl rfl,?_⟩;dsimp only;omega
 try simp only[ah]at c1
 refine AW.exit ?_;dsimp only[aD,au,reduceIte];refine go [.R,.m,.N,.a,.Z] ?_;refine AW.bS (L':=[.rt 7 .row (tr a),.sl 2 (.h 7 [])]) (ar.bb ⟨⟨_,rfl,eW (by omega) rfl (λ_ _=>rfl)⟩,rfl,trivial⟩ rfl rfl) ?_;refine aQ 2 ?_;refine⟨λ_=>7,rfl,aj rfl,?_⟩;intro r hr;cases List.mem_singleton.1 hr;exact⟨by simp,aq rfl⟩
theorem xZ(a:oj)(hw:Mk.wt a≤1048576):a_ prog 166 [.g [.v (iv a.Pc),.h aa []]] [.rt aa .ro (tr a.b_)] (j6 (.g [.v (iv a.Pc),.h 0 []]) [(0,.row,tr a.b_)]):=by
 refine ob func166 ntmps166 ?_;refine go [.R,.B,.N,.A,.Z,.R,.A,.Z,.R,.f,.N,.l,.f,.s,.Z,.R,.f,.N,.l] ?_;refine sp (aE.bP rfl (by decide) call30 rfl rfl (eZ _ (by first|omega|(simp only[Int.toNat_natCast];omega)|(simp only[Mk.wt]at *; omega))) (aj rfl) rfl rfl) ?_;refine go [.N,.f,.s,.Z,.R,.G,.N,.s,.Z] ?_;refine AW.ret (ct (.cons (.jf 2 75 rfl rfl rfl Cb yG (by decide)) .nil) ?_);refine⟨λ_=>9,rfl,aj rfl,?_⟩;intro r hr;cases List.mem_singleton.1 hr;exact⟨by simp,aq rfl⟩
theorem uG(a:dy)(hw:Mk.wt a≤1048576):a_ prog 103 [.g [.v (iv a.ey),.v (iv a.bM),.v (iv a.State),.v (iv a.dX),.v (iv a.dh.Pc),.h aa [],.h (aa+1) [],.h (aa+2) [],.v (iv a.cJ),.v (iv a.Code)]] [.rt aa .ro (tr a.dh.b_),.rt (aa+1) .ro (tr a.bf),.rt (aa+2) .ro (tr a.cH)] (j6 (.g [.v (iv a.ey),.v (iv a.bM),.v (iv a.State),.v (iv a.dX),.v (iv a.dh.Pc),.h 0 [],.h 1 [],.h 2 [],.v (iv a.cJ),.v (iv a.Code)]) [(0,.row,tr a.dh.b_),(1,.row,tr a.bf),(2,.row,tr a.cH)]):=by
 refine ob func103 ntmps103 ?_;refine go [.R,.B,.N,.A,.Z,.R,.A,.Z,.R,.f,.N,.l,.f,.s,.Z,.R,.f,.N,.l,.f,.s,.Z,.R,.f,.N,.l,.f,.s,.Z,.R,.f,.N,.l,.f,.s,.Z,.R,.f,.N,.G] ?_;refine sp (aE.bP rfl (by decide) call166 rfl rfl (xZ _ (by first|omega|(simp only[Int.toNat_natCast];omega)|(simp only[Mk.wt]at *; omega))) (aj rfl) rfl rfl) ?_;refine go [.N,.f,.s,.Z,.R,.f,.N,.l] ?_;refine sp (aE.bP rfl (by decide) call30 rfl rfl (eZ _ (by first|omega|(simp only[Int.toNat_natCast];omega)|(simp only[Mk.wt]at *; omega))) (aj rfl) rfl rfl) ?_;refine go [.N,.f,.s,.Z,.R,.f,.N,.l] ?_;refine sp (aE.bP rfl (by decide) call30 rfl rfl (eZ _ (by first|omega|(simp only[Int.toNat_natCast];omega)|(simp only[Mk.wt]at *; omega))) (aj rfl) rfl rfl) ?_;refine go [.N,.f,.s,.Z,.R,.f,.N,.l,.f,.s,.Z,.R,.f,.N,.l,.f,.s,.Z,.R,.G,.N,.s,.Z] ?_;refine AW.ret (ct (.cons (.jf 2 77 rfl rfl rfl B9 x9 (by decide)) .nil) ?_);refine⟨λi=>if i=0 then 18 else if i=1 then 22 else 26,rfl,aj rfl,?_⟩;intro r hr;simp only[mem_cons,not_mem_nil,or_false]at hr;rcases hr with rfl|rfl|rfl<;>exact⟨by simp,aq rfl⟩
theorem su(a:List dy)(hw:Mk.wt a≤1048576):a_ prog 29 [.h aa []] [.rt aa .ro (tr a)] (j6 (.h 0 []) [(0,.row,tr a)]):=by
 refine ob func29 ntmps29 ?_;have hw2:a.length+mE Mk.wt a≤1048576:=hw;refine go [.R,.a,.Z,.R,.m,.h,.N] ?_;refine sp (aE.makeSlice rfl (by decide) (by decide) rfl rfl (by omega) (by omega) (by omega)) ?_;refine go [.N,.a,.Z,.R2,.a,.Z] ?_;refine AW.block ?_;refine AW.aL (λi:cV a.length=>[.sl 4 (.v (iv i.k)),.sl 3 (.h 7 []),.sl 0 (.h aa []),.rt 7 .row (jY i.k a.length (λj=>a.getD j En.ab) λ_=>En.ab),.rt aa .ro (tr a)]) (λi=>a.length-i.k) ⟨0,zero_le _⟩ (ar.bb ⟨rfl,rfl,rfl,⟨_,rfl,(en rfl (λc hc=>match c,hc with|0,_=>aw|1,_=>aw|2,_=>aw|3,_=>aw|4,_=>aw|5,_=>bK|6,_=>bK|7,_=>bK|8,_=>aw|9,_=>aw|c+10,hc=>absurd hc (by simp only[En.n];omega)))⟩,Rf rfl,trivial⟩ rfl rfl) ?_;intro i;have hle:=i.le;refine go [.R2,.m,.N,.m,.h,.b,.Z] ?_;refine cd (λc1=>?_) λc1=>?_
 ·try simp only[ah]at c1
  have hwk:=fN (w:=Mk.wt) (d:=En.ab) (l:=a) (i:=i.k) (by omega);refine jd (AW.seq (AW.block (AW.region ?_)));refine go [.m,.N,.m,.m,.m,.N,.i,.G] ?_;refine sp (aE.bP rfl (by decide) call103 rfl rfl (uG _ (by first|omega|(simp only[Int.toNat_natCast];omega)|(simp only[Mk.wt]at *; omega))) (aj rfl) rfl rfl) ?_;refine go [.N,.i,.s,.Z,.R1,.m,.N,.b,.a,.Z] ?_;refine⟨⟨i.k+1,by omega⟩,ar.bb ⟨ew,rfl,rfl,⟨_,rfl,eN (λi c hi=>by simp only[ai,hi,false_and,if_false];rfl) (λc hc=>match c,hc with|0,_=>(by simp only[ai,eq_self,and_true,and_false,Nat.reduceEqDiff,if_true,if_false];exact aw)|1,_=>(by simp only[ai,eq_self,and_true,and_false,Nat.reduceEqDiff,if_true,if_false];exact aw)|2,_=>(by simp only[ai,eq_self,and_true,and_false,Nat.reduceEqDiff,if_true,if_false];exact aw)|3,_=>(by simp only[ai,eq_self,and_true,and_false,Nat.reduceEqDiff,if_true,if_false];exact aw)|4,_=>(by simp only[ai,eq_self,and_true,and_false,Nat.reduceEqDiff,if_true,if_false];exact aw)|5,_=>(by simp only[ai,eq_self,and_true,and_false,Nat.reduceEqDiff,if_true,if_false];exact aw)|6,_=>(by simp only[ai,eq_self,and_true,and_false,Nat.reduceEqDiff,if_true,if_false];exact aw)|7,_=>(by simp only[ai,eq_self,and_true,and_false,Nat.reduceEqDiff,if_true,if_false];exact aw)|8,_=>(by simp only[ai,eq_self,and_true,and_false,Nat.reduceEqDiff,if_true,if_false];exact aw)|9,_=>(by simp only[ai,eq_self,and_true,and_false,Nat.reduceEqDiff,if_true,if_false];exact aw)|c+10,hc=>absurd hc (by simp only[En.n];omega))⟩,Rf rfl,trivial⟩ rfl rfl,?_⟩;dsimp only;omega
 try simp only[ah]at c1
 refine AW.exit ?_;dsimp only[aD,au,reduceIte];refine go [.R,.m,.N,.a,.Z] ?_;refine AW.bS (L':=[.rt 7 .row (tr a),.sl 2 (.h 7 [])]) (ar.bb ⟨⟨_,rfl,eW (by omega) rfl (λ_ _=>rfl)⟩,rfl,trivial⟩ rfl rfl) ?_;refine aQ 2 ?_;refine⟨λ_=>7,rfl,aj rfl,?_⟩;intro r hr;cases List.mem_singleton.1 hr;exact⟨by simp,aq rfl⟩
theorem nx(a:List (List Int))(hw:Mk.wt a≤1048576):a_ prog 104 [.h aa []] [.rt aa .ro (tr a)] (j6 (.h 0 []) [(0,.row,tr a)]):=by
 refine ob func104 ntmps104 ?_;have hw2:a.length+mE Mk.wt a≤1048576:=hw;refine go [.R,.a,.Z,.R,.m,.h,.N] ?_;refine sp (aE.makeSlice rfl (by decide) (by decide) rfl rfl (by omega) (by omega) (by omega)) ?_;refine go [.N,.a,.Z,.R2,.a,.Z] ?_;refine AW.block ?_;refine AW.aL (λi:cV a.length=>[.sl 4 (.v (iv i.k)),.sl 3 (.h 7 []),.sl 0 (.h aa []),.rt 7 .row (jY i.k a.length (λj=>a.getD j En.ab) λ_=>En.ab),.rt aa .ro (tr a)]) (λi=>a.length-i.k) ⟨0,zero_le _⟩ (ar.bb ⟨rfl,rfl,rfl,⟨_,rfl,(en rfl (λc hc=>match c,hc with|0,_=>bK|c+1,hc=>absurd hc (by simp only[En.n];omega)))⟩,Rf rfl,trivial⟩ rfl rfl) ?_;intro i;have hle:=i.le;refine go [.R2,.m,.N,.m,.h,.b,.Z] ?_;refine cd (λc1=>?_) λc1=>?_
 ·try simp only[ah]at c1
  have hwk:=fN (w:=Mk.wt) (d:=En.ab) (l:=a) (i:=i.k) (by omega);refine jd (AW.seq (AW.block (AW.region ?_)));refine go [.m,.N,.m,.m,.m,.N,.i,.l] ?_;refine sp (aE.bP rfl (by decide) call30 rfl rfl (eZ _ (by first|omega|(simp only[Int.toNat_natCast];omega)|(simp only[Mk.wt]at *; omega))) (aj rfl) rfl rfl) ?_;refine go [.N,.i,.s,.Z,.R1,.m,.N,.b,.a,.Z] ?_;refine⟨⟨i.k+1,by omega⟩,ar.bb ⟨ew,rfl,rfl,⟨_,rfl,eN (λi c hi=>by simp only[ai,hi,false_and,if_false];rfl) (λc hc=>match c,hc with|0,_=>(by simp only[ai,eq_self,and_true,and_false,Nat.reduceEqDiff,if_true,if_false];exact aw)|c+1,hc=>absurd hc (by simp only[En.n];omega))⟩,Rf rfl,trivial⟩ rfl rfl,?_⟩;dsimp only;omega
 try simp only[ah]at c1
 refine AW.exit ?_;dsimp only[aD,au,reduceIte];refine go [.R,.m,.N,.a,.Z] ?_;refine AW.bS (L':=[.rt 7 .row (tr a),.sl 2 (.h 7 [])]) (ar.bb ⟨⟨_,rfl,eW (by omega) rfl (λ_ _=>rfl)⟩,rfl,trivial⟩ rfl rfl) ?_;refine aQ 2 ?_;refine⟨λ_=>7,rfl,aj rfl,?_⟩;intro r hr;cases List.mem_singleton.1 hr;exact⟨by simp,aq rfl⟩
theorem uH(a:gC)(hw:Mk.wt a≤1048576):a_ prog 31 [.g [.h aa []]] [.rt aa .ro (tr a.aZ)] (j6 (.g [.h 0 []]) [(0,.row,tr a.aZ)]):=by
 refine ob func31 ntmps31 ?_;refine go [.R,.B,.N,.A,.Z,.R,.A,.Z,.R,.f,.N,.l] ?_;refine sp (aE.bP rfl (by decide) call104 rfl rfl (nx _ (by first|omega|(simp only[Int.toNat_natCast];omega)|(simp only[Mk.wt]at *; omega))) (aj rfl) rfl rfl) ?_;refine go [.N,.f,.s,.Z,.R,.G,.N,.s,.Z] ?_;refine AW.ret (ct (.cons (.jf 2 43 rfl rfl rfl Dj BK (by decide)) .nil) ?_);refine⟨λ_=>6,rfl,aj rfl,?_⟩;intro r hr;cases List.mem_singleton.1 hr;exact⟨by simp,aq rfl⟩
theorem wk(a:az):a_ prog 105 [.g [.v (iv a.Id),.v (iv a.Kind),.v (iv a.Target),.v (iv a.j3),.v (iv a.fc)]] [] (j6 (.g [.v (iv a.Id),.v (iv a.Kind),.v (iv a.Target),.v (iv a.j3),.v (iv a.fc)]) []):=by
 refine ob func105 ntmps105 ?_;refine go [.R,.B,.N,.A,.Z,.R,.A,.Z,.R,.f,.N,.l,.f,.s,.Z,.R,.f,.N,.l,.f,.s,.Z,.R,.f,.N,.l,.f,.s,.Z,.R,.f,.N,.l,.f,.s,.Z,.R,.f,.N,.l,.f,.s,.Z,.R,.G,.N,.s,.Z] ?_;refine AW.ret (ct (.cons (.jf 2 72 rfl rfl rfl Dq gx (by decide)) .nil) ?_);refine⟨λ_=>0,rfl,aj rfl,?_⟩;intro r hr;cases hr
theorem uc(a:List az)(hw:Mk.wt a≤1048576):a_ prog 32 [.h aa []] [.rt aa .ro (tr a)] (j6 (.h 0 []) [(0,.row,tr a)]):=by
 refine ob func32 ntmps32 ?_;have hw2:a.length+mE Mk.wt a≤1048576:=hw;refine go [.R,.a,.Z,.R,.m,.h,.N] ?_;refine sp (aE.makeSlice rfl (by decide) (by decide) rfl rfl (by omega) (by omega) (by omega)) ?_;refine go [.N,.a,.Z,.R2,.a,.Z] ?_;refine AW.block ?_;refine AW.aL (λi:cV a.length=>[.sl 4 (.v (iv i.k)),.sl 3 (.h 7 []),.sl 0 (.h aa []),.rt 7 .row (jY i.k a.length (λj=>a.getD j En.ab) λ_=>En.ab),.rt aa .ro (tr a)]) (λi=>a.length-i.k) ⟨0,zero_le _⟩ (ar.bb ⟨rfl,rfl,rfl,⟨_,rfl,(en rfl (λc hc=>match c,hc with|0,_=>aw|1,_=>aw|2,_=>aw|3,_=>aw|4,_=>aw|c+5,hc=>absurd hc (by simp only[En.n];omega)))⟩,Rf rfl,trivial⟩ rfl rfl) ?_;intro i;have hle:=i.le;refine go [.R2,.m,.N,.m,.h,.b,.Z] ?_;refine cd (λc1=>?_) λc1=>?_
 ·try simp only[ah]at c1
  have hwk:=fN (w:=Mk.wt) (d:=En.ab) (l:=a) (i:=i.k) (by omega);refine jd (AW.seq (AW.block (AW.region ?_)));refine go [.m,.N,.m,.m,.m,.N,.i,.G] ?_;refine sp (aE.bP rfl (by decide) call105 rfl rfl (wk _) (aj rfl) rfl rfl) ?_;refine go [.N,.i,.s,.Z,.R1,.m,.N,.b,.a,.Z] ?_;refine⟨⟨i.k+1,by omega⟩,ar.bb ⟨ew,rfl,rfl,⟨_,rfl,eN (λi c hi=>by simp only[ai,hi,false_and,if_false];rfl) (λc hc=>match c,hc with|0,_=>(by simp only[ai,eq_self,and_true,and_false,Nat.reduceEqDiff,if_true,if_false];exact aw)|1,_=>(by simp only[ai,eq_self,and_true,and_false,Nat.reduceEqDiff,if_true,if_false];exact aw)|2,_=>(by simp only[ai,eq_self,and_true,and_false,Nat.reduceEqDiff,if_true,if_false];exact aw)|3,_=>(by simp only[ai,eq_self,and_true,and_false,Nat.reduceEqDiff,if_true,if_false];exact aw)|4,_=>(by simp only[ai,eq_self,and_true,and_false,Nat.reduceEqDiff,if_true,if_false];exact aw)|c+5,hc=>absurd hc (by simp only[En.n];omega))⟩,Rf rfl,trivial⟩ rfl rfl,?_⟩;dsimp only;omega
 try simp only[ah]at c1
 refine AW.exit ?_;dsimp only[aD,au,reduceIte];refine go [.R,.m,.N,.a,.Z] ?_;refine AW.bS (L':=[.rt 7 .row (tr a),.sl 2 (.h 7 [])]) (ar.bb ⟨⟨_,rfl,eW (by omega) rfl (λ_ _=>rfl)⟩,rfl,trivial⟩ rfl rfl) ?_;refine aQ 2 ?_;refine⟨λ_=>7,rfl,aj rfl,?_⟩;intro r hr;cases List.mem_singleton.1 hr;exact⟨by simp,aq rfl⟩
theorem vi(a:dd)(hw:Mk.wt a≤1048576):a_ prog 106 [.g [.v (iv a.Id),.h aa []]] [.rt aa .ro (tr a.bo)] (j6 (.g [.v (iv a.Id),.h 0 []]) [(0,.row,tr a.bo)]):=by
 refine ob func106 ntmps106 ?_;refine go [.R,.B,.N,.A,.Z,.R,.A,.Z,.R,.f,.N,.l,.f,.s,.Z,.R,.f,.N,.l] ?_;refine sp (aE.bP rfl (by decide) call104 rfl rfl (nx _ (by first|omega|(simp only[Int.toNat_natCast];omega)|(simp only[Mk.wt]at *; omega))) (aj rfl) rfl rfl) ?_;refine go [.N,.f,.s,.Z,.R,.G,.N,.s,.Z] ?_;refine AW.ret (ct (.cons (.jf 2 83 rfl rfl rfl BR x5 (by decide)) .nil) ?_);refine⟨λ_=>9,rfl,aj rfl,?_⟩;intro r hr;cases List.mem_singleton.1 hr;exact⟨by simp,aq rfl⟩
theorem q0(a:List dd)(hw:Mk.wt a≤1048576):a_ prog 33 [.h aa []] [.rt aa .ro (tr a)] (j6 (.h 0 []) [(0,.row,tr a)]):=by
 refine ob func33 ntmps33 ?_;have hw2:a.length+mE Mk.wt a≤1048576:=hw;refine go [.R,.a,.Z,.R,.m,.h,.N] ?_;refine sp (aE.makeSlice rfl (by decide) (by decide) rfl rfl (by omega) (by omega) (by omega)) ?_;refine go [.N,.a,.Z,.R2,.a,.Z] ?_;refine AW.block ?_;refine AW.aL (λi:cV a.length=>[.sl 4 (.v (iv i.k)),.sl 3 (.h 7 []),.sl 0 (.h aa []),.rt 7 .row (jY i.k a.length (λj=>a.getD j En.ab) λ_=>En.ab),.rt aa .ro (tr a)]) (λi=>a.length-i.k) ⟨0,zero_le _⟩ (ar.bb ⟨rfl,rfl,rfl,⟨_,rfl,(en rfl (λc hc=>match c,hc with|0,_=>aw|1,_=>bK|c+2,hc=>absurd hc (by simp only[En.n];omega)))⟩,Rf rfl,trivial⟩ rfl rfl) ?_;intro i;have hle:=i.le;refine go [.R2,.m,.N,.m,.h,.b,.Z] ?_;refine cd (λc1=>?_) λc1=>?_
 ·try simp only[ah]at c1
  have hwk:=fN (w:=Mk.wt) (d:=En.ab) (l:=a) (i:=i.k) (by omega);refine jd (AW.seq (AW.block (AW.region ?_)));refine go [.m,.N,.m,.m,.m,.N,.i,.G] ?_;refine sp (aE.bP rfl (by decide) call106 rfl rfl (vi _ (by first|omega|(simp only[Int.toNat_natCast];omega)|(simp only[Mk.wt]at *; omega))) (aj rfl) rfl rfl) ?_;refine go [.N,.i,.s,.Z,.R1,.m,.N,.b,.a,.Z] ?_;refine⟨⟨i.k+1,by omega⟩,ar.bb ⟨ew,rfl,rfl,⟨_,rfl,eN (λi c hi=>by simp only[ai,hi,false_and,if_false];rfl) (λc hc=>match c,hc with|0,_=>(by simp only[ai,eq_self,and_true,and_false,Nat.reduceEqDiff,if_true,if_false];exact aw)|1,_=>(by simp only[ai,eq_self,and_true,and_false,Nat.reduceEqDiff,if_true,if_false];exact aw)|c+2,hc=>absurd hc (by simp only[En.n];omega))⟩,Rf rfl,trivial⟩ rfl rfl,?_⟩;dsimp only;omega
 try simp only[ah]at c1
 refine AW.exit ?_;dsimp only[aD,au,reduceIte];refine go [.R,.m,.N,.a,.Z] ?_;refine AW.bS (L':=[.rt 7 .row (tr a),.sl 2 (.h 7 [])]) (ar.bb ⟨⟨_,rfl,eW (by omega) rfl (λ_ _=>rfl)⟩,rfl,trivial⟩ rfl rfl) ?_;refine aQ 2 ?_;refine⟨λ_=>7,rfl,aj rfl,?_⟩;intro r hr;cases List.mem_singleton.1 hr;exact⟨by simp,aq rfl⟩
theorem vW(a:ca)(hw:Mk.wt a≤1048576):a_ prog 107 [.g [.v (iv a.Name),.h aa []]] [.rt aa .ro (tr a.Data)] (j6 (.g [.v (iv a.Name),.h 0 []]) [(0,.row,tr a.Data)]):=by
 refine ob func107 ntmps107 ?_;refine go [.R,.B,.N,.A,.Z,.R,.A,.Z,.R,.f,.N,.l,.f,.s,.Z,.R,.f,.N,.l] ?_;refine sp (aE.bP rfl (by decide) call30 rfl rfl (eZ _ (by first|omega|(simp only[Int.toNat_natCast];omega)|(simp only[Mk.wt]at *; omega))) (aj rfl) rfl rfl) ?_;refine go [.N,.f,.s,.Z,.R,.G,.N,.s,.Z] ?_;refine AW.ret (ct (.cons (.jf 2 96 rfl rfl rfl Dz gh (by decide)) .nil) ?_);refine⟨λ_=>9,rfl,aj rfl,?_⟩;intro r hr;cases List.mem_singleton.1 hr;exact⟨by simp,aq rfl⟩
theorem uS(a:List ca)(hw:Mk.wt a≤1048576):a_ prog 34 [.h aa []] [.rt aa .ro (tr a)] (j6 (.h 0 []) [(0,.row,tr a)]):=by
 refine ob func34 ntmps34 ?_;have hw2:a.length+mE Mk.wt a≤1048576:=hw;refine go [.R,.a,.Z,.R,.m,.h,.N] ?_;refine sp (aE.makeSlice rfl (by decide) (by decide) rfl rfl (by omega) (by omega) (by omega)) ?_;refine go [.N,.a,.Z,.R2,.a,.Z] ?_;refine AW.block ?_;refine AW.aL (λi:cV a.length=>[.sl 4 (.v (iv i.k)),.sl 3 (.h 7 []),.sl 0 (.h aa []),.rt 7 .row (jY i.k a.length (λj=>a.getD j En.ab) λ_=>En.ab),.rt aa .ro (tr a)]) (λi=>a.length-i.k) ⟨0,zero_le _⟩ (ar.bb ⟨rfl,rfl,rfl,⟨_,rfl,(en rfl (λc hc=>match c,hc with|0,_=>aw|1,_=>bK|c+2,hc=>absurd hc (by simp only[En.n];omega)))⟩,Rf rfl,trivial⟩ rfl rfl) ?_;intro i;have hle:=i.le;refine go [.R2,.m,.N,.m,.h,.b,.Z] ?_;refine cd (λc1=>?_) λc1=>?_
 ·try simp only[ah]at c1
  have hwk:=fN (w:=Mk.wt) (d:=En.ab) (l:=a) (i:=i.k) (by omega);refine jd (AW.seq (AW.block (AW.region ?_)));refine go [.m,.N,.m,.m,.m,.N,.i,.G] ?_;refine sp (aE.bP rfl (by decide) call107 rfl rfl (vW _ (by first|omega|(simp only[Int.toNat_natCast];omega)|(simp only[Mk.wt]at *; omega))) (aj rfl) rfl rfl) ?_;refine go [.N,.i,.s,.Z,.R1,.m,.N,.b,.a,.Z] ?_;refine⟨⟨i.k+1,by omega⟩,ar.bb ⟨ew,rfl,rfl,⟨_,rfl,eN (λi c hi=>by simp only[ai,hi,false_and,if_false];rfl) (λc hc=>match c,hc with|0,_=>(by simp only[ai,eq_self,and_true,and_false,Nat.reduceEqDiff,if_true,if_false];exact aw)|1,_=>(by simp only[ai,eq_self,and_true,and_false,Nat.reduceEqDiff,if_true,if_false];exact aw)|c+2,hc=>absurd hc (by simp only[En.n];omega))⟩,Rf rfl,trivial⟩ rfl rfl,?_⟩;dsimp only;omega
 try simp only[ah]at c1
 refine AW.exit ?_;dsimp only[aD,au,reduceIte];refine go [.R,.m,.N,.a,.Z] ?_;refine AW.bS (L':=[.rt 7 .row (tr a),.sl 2 (.h 7 [])]) (ar.bb ⟨⟨_,rfl,eW (by omega) rfl (λ_ _=>rfl)⟩,rfl,trivial⟩ rfl rfl) ?_;refine aQ 2 ?_;refine⟨λ_=>7,rfl,aj rfl,?_⟩;intro r hr;cases List.mem_singleton.1 hr;exact⟨by simp,aq rfl⟩
theorem kv(a:bC)(hw:Mk.wt a≤1048576):a_ prog 8 [.g [.v (iv a.Next),.v (iv a.bp),.h aa [],.h (aa+1) [],.h (aa+2) [],.h (aa+3) [],.h (aa+4) [],.h (aa+5) [],.h (aa+6) [],.h (aa+7) [],.h (aa+8) []]] [.rt aa .ro (tr a.aP),.rt (aa+1) .ro (tr a.ag),.rt (aa+2) .ro (tr a.fx),.rt (aa+3) .ro (tr a.Heap.aZ),.rt (aa+4) .ro (tr a.ao),.rt (aa+5) .ro (tr a.ak),.rt (aa+6) .ro (tr a.ay),.rt (aa+7) .ro (tr a.aN),.rt (aa+8) .ro (tr a.Out)] (j6 (.g [.v (iv a.Next),.v (iv a.bp),.h 0 [],.h 1 [],.h 2 [],.h 3 [],.h 4 [],.h 5 [],.h 6 [],.h 7 [],.h 8 []]) [(0,.row,tr a.aP),(1,.row,tr a.ag),(2,.row,tr a.fx),(3,.row,tr a.Heap.aZ),(4,.row,tr a.ao),(5,.row,tr a.ak),(6,.row,tr a.ay),(7,.row,tr a.aN),(8,.row,tr a.Out)]):=by
 refine ob func8 ntmps8 ?_;refine go [.R,.B,.N,.A,.Z,.R,.A,.Z,.R,.f,.N,.l,.f,.s,.Z,.R,.f,.N,.l,.f,.s,.Z,.R,.f,.N,.l] ?_;refine sp (aE.bP rfl (by decide) call28 rfl rfl (uI _ (by first|omega|(simp only[Int.toNat_natCast];omega)|(simp only[Mk.wt]at *; omega))) (aj rfl) rfl rfl) ?_;refine go [.N,.f,.s,.Z,.R,.f,.N,.l] ?_;refine sp (aE.bP rfl (by decide) call29 rfl rfl (su _ (by first|omega|(simp only[Int.toNat_natCast];omega)|(simp only[Mk.wt]at *; omega))) (aj rfl) rfl rfl) ?_;refine go [.N,.f,.s,.Z,.R,.f,.N,.l] ?_;refine sp (aE.bP rfl (by decide) call30 rfl rfl (eZ _ (by first|omega|(simp only[Int.toNat_natCast];omega)|(simp only[Mk.wt]at *; omega))) (aj rfl) rfl rfl) ?_;refine go [.N,.f,.s,.Z,.R,.f,.N,.G] ?_;refine sp (aE.bP rfl (by decide) call31 rfl rfl (uH _ (by first|omega|(simp only[Int.toNat_natCast];omega)|(simp only[Mk.wt]at *; omega))) (aj rfl) rfl rfl) ?_;refine go [.N,.f,.s,.Z,.R,.f,.N,.l] ?_;refine sp (aE.bP rfl (by decide) call32 rfl rfl (uc _ (by first|omega|(simp only[Int.toNat_natCast];omega)|(simp only[Mk.wt]at *; omega))) (aj rfl) rfl rfl) ?_;refine go [.N,.f,.s,.Z,.R,.f,.N,.l] ?_;refine sp (aE.bP rfl (by decide) call33 rfl rfl (q0 _ (by first|omega|(simp only[Int.toNat_natCast];omega)|(simp only[Mk.wt]at *; omega))) (aj rfl) rfl rfl) ?_;refine go [.N,.f,.s,.Z,.R,.f,.N,.l] ?_;refine sp (aE.bP rfl (by decide) call34 rfl rfl (uS _ (by first|omega|(simp only[Int.toNat_natCast];omega)|(simp only[Mk.wt]at *; omega))) (aj rfl) rfl rfl) ?_;refine go [.N,.f,.s,.Z,.R,.f,.N,.l] ?_;refine sp (aE.bP rfl (by decide) call30 rfl rfl (eZ _ (by first|omega|(simp only[Int.toNat_natCast];omega)|(simp only[Mk.wt]at *; omega))) (aj rfl) rfl rfl) ?_;refine go [.N,.f,.s,.Z,.R,.f,.N,.l] ?_;refine sp (aE.bP rfl (by decide) call30 rfl rfl (eZ _ (by first|omega|(simp only[Int.toNat_natCast];omega)|(simp only[Mk.wt]at *; omega))) (aj rfl) rfl rfl) ?_;refine go [.N,.f,.s,.Z,.R,.G,.N,.s,.Z] ?_;refine AW.ret (ct (.cons (.jf 2 46 rfl rfl rfl DE Dr (by decide)) .nil) ?_);refine⟨λi=>if i=0 then 12 else if i=1 then 16 else if i=2 then 20 else if i=3 then 24 else if i=4 then 28 else if i=5 then 32 else if i=6 then 36 else if i=7 then 40 else 44,rfl,aj rfl,?_⟩;intro r hr;simp only[mem_cons,not_mem_nil,or_false]at hr;rcases hr with rfl|rfl|rfl|rfl|rfl|rfl|rfl|rfl|rfl<;>exact⟨by simp,aq rfl⟩
theorem xR(a b:cU):a_ prog 178 [.g [.v (iv a.Op),.v (iv a.A),.v (iv a.B),.v (iv a.C)],.g [.v (iv b.Op),.v (iv b.A),.v (iv b.B),.v (iv b.C)]] [] (λy _=>y= .v (.bool (decide (a=b)))):=by
 refine ob func178 ntmps178 ?_;refine go [.R,.B,.N,.B,.N,.a,.Z,.R2,.f,.l,.N,.f,.l,.b,.Z] ?_;refine cd (λc1=>?_) λc1=>?_
 ·try simp only[ah]at c1
  refine go [.R,.a,.Z] ?_;refine aQ 4 ?_;simp only[bi,ax,reduceIte,Nat.reduceEqDiff];cases a;cases b;simp_all
 try simp only[ah]at c1
 refine jd (dq ?_);refine go [.f,.N,.l,.f,.l,.N,.b,.Z] ?_;refine cd (λc2=>?_) λc2=>?_
 ·try simp only[ah]at c2
  refine go [.R,.a,.Z] ?_;refine aQ 4 ?_;simp only[bi,ax,reduceIte,Nat.reduceEqDiff];cases a;cases b;simp_all
 try simp only[ah]at c2
 refine jd (dq ?_);refine go [.f,.N,.l,.f,.l,.N,.b,.Z] ?_;refine cd (λc3=>?_) λc3=>?_
 ·try simp only[ah]at c3
  refine go [.R,.a,.Z] ?_;refine aQ 4 ?_;simp only[bi,ax,reduceIte,Nat.reduceEqDiff];cases a;cases b;simp_all
 try simp only[ah]at c3
 refine jd (dq ?_);refine go [.f,.N,.l,.f,.l,.N,.b,.Z] ?_;refine cd (λc4=>?_) λc4=>?_
 ·try simp only[ah]at c4
  refine go [.R,.a,.Z] ?_;refine aQ 4 ?_;simp only[bi,ax,reduceIte,Nat.reduceEqDiff];cases a;cases b;simp_all
 try simp only[ah]at c4
 refine go [.J,.R,.a,.Z] ?_;refine aQ 4 ?_;simp only[bi,ax,reduceIte,Nat.reduceEqDiff];cases a;cases b;simp_all
theorem vz(a b:List cU):a_ prog 124 [.h aa [],.h (aa+1) []] [.rt aa .ro (tr a),.rt (aa+1) .ro (tr b)] (λy _=>y= .v (.bool (decide (a=b)))):=by
 refine ob func124 ntmps124 ?_;refine AW.len aa [] rfl (by simp[bT]) rfl (λhl=>?_);refine AW.len (aa+1) [] rfl (by simp[bT]) rfl (λhl2=>?_);refine go [.R,.a,.Z,.R2,.m,.h,.N,.m,.h,.b,.Z] ?_;refine cd (λc1=>?_) λc1=>?_
 ·try simp only[ah]at c1
  refine go [.R,.a,.Z] ?_;refine aQ 4 ?_;simp only[bi,ax,reduceIte,Nat.reduceEqDiff];rw[decide_eq_false (show a≠b from fa (by omega))]
 try simp only[ah]at c1
 refine jd (dq ?_);refine go [.a,.Z] ?_;refine AW.block ?_;refine AW.aL (λi:iJ a b=>[.sl 5 (.v (iv i.k)),.sl 0 (.h aa []),.sl 1 (.h (aa+1) []),.rt aa .ro (tr a),.rt (aa+1) .ro (tr b)]) (λi=>a.length-i.k) ⟨0,zero_le _,rfl⟩ (ws) ?_;intro i;have hle:=i.le;refine go [.R2,.m,.N,.m,.h,.b,.Z] ?_;refine cd (λc2=>?_) λc2=>?_
 ·try simp only[ah]at c2
  refine jd (AW.seq (AW.block (AW.seq ?_)));refine go [.D [0,1,2,3,4,5,6,7,9],.t 0,.m,.N,.t 1,.m,.t 2,.i,.t 3,.G,.N,.t 4,.m,.t 5,.m,.t 6,.i,.N,.t 7,.G] ?_;refine a1 8 [] [7,3,6,2,5,4,1,0] rfl rfl (aE.aC rfl (by decide) call178 rfl rfl (xR _ _)) ?_;refine go [.N,.t 9,.n,.Z] ?_;refine cd (λc3=>?_) λc3=>?_
  ·try simp only[ah]at c3
   refine go [.R,.a,.Z] ?_;refine aQ 4 ?_;simp only[bi,ax,reduceIte,Nat.reduceEqDiff];rw[decide_eq_false (show a≠b from i.stop En.ab (by simpa using c3))]
  try simp only[ah]at c3
  refine go [.J,.R1,.m,.N,.b,.a,.Z] ?_;refine⟨⟨i.k+1,by omega,i.next En.ab (by omega) (by omega) (by simpa using c3)⟩,ws,?_⟩;dsimp only;omega
 try simp only[ah]at c2
 refine AW.exit ?_;dsimp only[aD,au,reduceIte];refine go [.R,.a,.Z] ?_;refine aQ 4 ?_;simp only[bi,ax,reduceIte,Nat.reduceEqDiff];rw[decide_eq_true (show a=b from i.full (by omega) (by omega))]
theorem sV(a b:List (List cU)):a_ prog 53 [.h aa [],.h (aa+1) []] [.rt aa .ro (tr a),.rt (aa+1) .ro (tr b)] (λy _=>y= .v (.bool (decide (a=b)))):=by
 refine ob func53 ntmps53 ?_;refine AW.len aa [] rfl (by simp[bT]) rfl (λhl=>?_);refine AW.len (aa+1) [] rfl (by simp[bT]) rfl (λhl2=>?_);refine go [.R,.a,.Z,.R2,.m,.h,.N,.m,.h,.b,.Z] ?_;refine cd (λc1=>?_) λc1=>?_
 ·try simp only[ah]at c1
  refine go [.R,.a,.Z] ?_;refine aQ 4 ?_;simp only[bi,ax,reduceIte,Nat.reduceEqDiff];rw[decide_eq_false (show a≠b from fa (by omega))]
 try simp only[ah]at c1
 refine jd (dq ?_);refine go [.a,.Z] ?_;refine AW.block ?_;refine AW.aL (λi:iJ a b=>[.sl 5 (.v (iv i.k)),.sl 0 (.h aa []),.sl 1 (.h (aa+1) []),.rt aa .ro (tr a),.rt (aa+1) .ro (tr b)]) (λi=>a.length-i.k) ⟨0,zero_le _,rfl⟩ (ws) ?_;intro i;have hle:=i.le;refine go [.R2,.m,.N,.m,.h,.b,.Z] ?_;refine cd (λc2=>?_) λc2=>?_
 ·try simp only[ah]at c2
  refine jd (AW.seq (AW.block (AW.seq ?_)));refine go [.D [0,1,2,3,4,5,6,7,9],.t 0,.m,.N,.t 1,.m,.t 2,.i,.t 3,.l,.N,.t 4,.m,.t 5,.m,.t 6,.i,.N,.t 7,.l] ?_;refine a1 8 [] [7,3,6,2,5,4,1,0] rfl rfl (aE.aC rfl (by decide) call124 rfl rfl (vz _ _)) ?_;refine go [.N,.t 9,.n,.Z] ?_;refine cd (λc3=>?_) λc3=>?_
  ·try simp only[ah]at c3
   refine go [.R,.a,.Z] ?_;refine aQ 4 ?_;simp only[bi,ax,reduceIte,Nat.reduceEqDiff];rw[decide_eq_false (show a≠b from i.stop En.ab (by simpa using c3))]
  try simp only[ah]at c3
  refine go [.J,.R1,.m,.N,.b,.a,.Z] ?_;refine⟨⟨i.k+1,by omega,i.next En.ab (by omega) (by omega) (by simpa using c3)⟩,ws,?_⟩;dsimp only;omega
 try simp only[ah]at c2
 refine AW.exit ?_;dsimp only[aD,au,reduceIte];refine go [.R,.a,.Z] ?_;refine aQ 4 ?_;simp only[bi,ax,reduceIte,Nat.reduceEqDiff];rw[decide_eq_true (show a=b from i.full (by omega) (by omega))]
theorem vX(a b:az):a_ prog 126 [.g [.v (iv a.Id),.v (iv a.Kind),.v (iv a.Target),.v (iv a.j3),.v (iv a.fc)],.g [.v (iv b.Id),.v (iv b.Kind),.v (iv b.Target),.v (iv b.j3),.v (iv b.fc)]] [] (λy _=>y= .v (.bool (decide (a=b)))):=by
 refine ob func126 ntmps126 ?_;refine go [.R,.B,.N,.B,.N,.a,.Z,.R2,.f,.l,.N,.f,.l,.b,.Z] ?_;refine cd (λc1=>?_) λc1=>?_
 ·try simp only[ah]at c1
  refine go [.R,.a,.Z] ?_;refine aQ 4 ?_;simp only[bi,ax,reduceIte,Nat.reduceEqDiff];cases a;cases b;simp_all
 try simp only[ah]at c1
 refine jd (dq ?_);refine go [.f,.N,.l,.f,.l,.N,.b,.Z] ?_;refine cd (λc2=>?_) λc2=>?_
 ·try simp only[ah]at c2
  refine go [.R,.a,.Z] ?_;refine aQ 4 ?_;simp only[bi,ax,reduceIte,Nat.reduceEqDiff];cases a;cases b;simp_all
 try simp only[ah]at c2
 refine jd (dq ?_);refine go [.f,.N,.l,.f,.l,.N,.b,.Z] ?_;refine cd (λc3=>?_) λc3=>?_
 ·try simp only[ah]at c3
  refine go [.R,.a,.Z] ?_;refine aQ 4 ?_;simp only[bi,ax,reduceIte,Nat.reduceEqDiff];cases a;cases b;simp_all
 try simp only[ah]at c3
 refine jd (dq ?_);refine go [.f,.N,.l,.f,.l,.N,.b,.Z] ?_;refine cd (λc4=>?_) λc4=>?_
 ·try simp only[ah]at c4
  refine go [.R,.a,.Z] ?_;refine aQ 4 ?_;simp only[bi,ax,reduceIte,Nat.reduceEqDiff];cases a;cases b;simp_all
 try simp only[ah]at c4
 refine jd (dq ?_);refine go [.f,.N,.l,.f,.l,.N,.b,.Z] ?_;refine cd (λc5=>?_) λc5=>?_
 ·try simp only[ah]at c5
  refine go [.R,.a,.Z] ?_;refine aQ 4 ?_;simp only[bi,ax,reduceIte,Nat.reduceEqDiff];cases a;cases b;simp_all
 try simp only[ah]at c5
 refine go [.J,.R,.a,.Z] ?_;refine aQ 4 ?_;simp only[bi,ax,reduceIte,Nat.reduceEqDiff];cases a;cases b;simp_all
theorem sU(a b:List az):a_ prog 55 [.h aa [],.h (aa+1) []] [.rt aa .ro (tr a),.rt (aa+1) .ro (tr b)] (λy _=>y= .v (.bool (decide (a=b)))):=by
 refine ob func55 ntmps55 ?_;refine AW.len aa [] rfl (by simp[bT]) rfl (λhl=>?_);refine AW.len (aa+1) [] rfl (by simp[bT]) rfl (λhl2=>?_);refine go [.R,.a,.Z,.R2,.m,.h,.N,.m,.h,.b,.Z] ?_;refine cd (λc1=>?_) λc1=>?_
 ·try simp only[ah]at c1
  refine go [.R,.a,.Z] ?_;refine aQ 4 ?_;simp only[bi,ax,reduceIte,Nat.reduceEqDiff];rw[decide_eq_false (show a≠b from fa (by omega))]
 try simp only[ah]at c1
 refine jd (dq ?_);refine go [.a,.Z] ?_;refine AW.block ?_;refine AW.aL (λi:iJ a b=>[.sl 5 (.v (iv i.k)),.sl 0 (.h aa []),.sl 1 (.h (aa+1) []),.rt aa .ro (tr a),.rt (aa+1) .ro (tr b)]) (λi=>a.length-i.k) ⟨0,zero_le _,rfl⟩ (ws) ?_;intro i;have hle:=i.le;refine go [.R2,.m,.N,.m,.h,.b,.Z] ?_;refine cd (λc2=>?_) λc2=>?_
 ·try simp only[ah]at c2
  refine jd (AW.seq (AW.block (AW.seq ?_)));refine go [.D [0,1,2,3,4,5,6,7,9],.t 0,.m,.N,.t 1,.m,.t 2,.i,.t 3,.G,.N,.t 4,.m,.t 5,.m,.t 6,.i,.N,.t 7,.G] ?_;refine a1 8 [] [7,3,6,2,5,4,1,0] rfl rfl (aE.aC rfl (by decide) call126 rfl rfl (vX _ _)) ?_;refine go [.N,.t 9,.n,.Z] ?_;refine cd (λc3=>?_) λc3=>?_
  ·try simp only[ah]at c3
   refine go [.R,.a,.Z] ?_;refine aQ 4 ?_;simp only[bi,ax,reduceIte,Nat.reduceEqDiff];rw[decide_eq_false (show a≠b from i.stop En.ab (by simpa using c3))]
  try simp only[ah]at c3
  refine go [.J,.R1,.m,.N,.b,.a,.Z] ?_;refine⟨⟨i.k+1,by omega,i.next En.ab (by omega) (by omega) (by simpa using c3)⟩,ws,?_⟩;dsimp only;omega
 try simp only[ah]at c2
 refine AW.exit ?_;dsimp only[aD,au,reduceIte];refine go [.R,.a,.Z] ?_;refine aQ 4 ?_;simp only[bi,ax,reduceIte,Nat.reduceEqDiff];rw[decide_eq_true (show a=b from i.full (by omega) (by omega))]
theorem eP(a b:List Int):a_ prog 58 [.h aa [],.h (aa+1) []] [.rt aa .ro (tr a),.rt (aa+1) .ro (tr b)] (λy _=>y= .v (.bool (decide (a=b)))):=by
 refine ob func58 ntmps58 ?_;refine AW.len aa [] rfl (by simp[bT]) rfl (λhl=>?_);refine AW.len (aa+1) [] rfl (by simp[bT]) rfl (λhl2=>?_);refine go [.R,.a,.Z,.R2,.m,.h,.N,.m,.h,.b,.Z] ?_;refine cd (λc1=>?_) λc1=>?_
 ·try simp only[ah]at c1
  refine go [.R,.a,.Z] ?_;refine aQ 4 ?_;simp only[bi,ax,reduceIte,Nat.reduceEqDiff];rw[decide_eq_false (show a≠b from fa (by omega))]
 try simp only[ah]at c1
 refine jd (dq ?_);refine go [.a,.Z] ?_;refine AW.block ?_;refine AW.aL (λi:iJ a b=>[.sl 5 (.v (iv i.k)),.sl 0 (.h aa []),.sl 1 (.h (aa+1) []),.rt aa .ro (tr a),.rt (aa+1) .ro (tr b)]) (λi=>a.length-i.k) ⟨0,zero_le _,rfl⟩ (ws) ?_;intro i;have hle:=i.le;refine go [.R2,.m,.N,.m,.h,.b,.Z] ?_;refine cd (λc2=>?_) λc2=>?_
 ·try simp only[ah]at c2
  refine jd (AW.seq (AW.block (AW.seq ?_)));refine go [.D [0,1,2,3,4,5,6,7,8],.t 0,.m,.N,.t 1,.m,.t 2,.i,.t 3,.l,.N,.t 4,.m,.t 5,.m,.t 6,.i,.N,.t 7,.l,.t 8,.b,.Z] ?_;refine cd (λc3=>?_) λc3=>?_
  ·try simp only[ah]at c3
   refine go [.R,.a,.Z] ?_;refine aQ 4 ?_;simp only[bi,ax,reduceIte,Nat.reduceEqDiff];rw[decide_eq_false (show a≠b from i.stop En.ab (by simpa using c3))]
  try simp only[ah]at c3
  refine go [.J,.R1,.m,.N,.b,.a,.Z] ?_;refine⟨⟨i.k+1,by omega,i.next En.ab (by omega) (by omega) (by simpa using c3)⟩,ws,?_⟩;dsimp only;omega
 try simp only[ah]at c2
 refine AW.exit ?_;dsimp only[aD,au,reduceIte];refine go [.R,.a,.Z] ?_;refine aQ 4 ?_;simp only[bi,ax,reduceIte,Nat.reduceEqDiff];rw[decide_eq_true (show a=b from i.full (by omega) (by omega))]
theorem wc(a b:ca):a_ prog 128 [.g [.v (iv a.Name),.h aa []],.g [.v (iv b.Name),.h (aa+1) []]] [.rt aa .ro (tr a.Data),.rt (aa+1) .ro (tr b.Data)] (λy _=>y= .v (.bool (decide (a=b)))):=by
 refine ob func128 ntmps128 ?_;refine go [.R,.B,.N,.B,.N,.a,.Z,.R2,.f,.l,.N,.f,.l,.b,.Z] ?_;refine cd (λc1=>?_) λc1=>?_
 ·try simp only[ah]at c1
  refine go [.R,.a,.Z] ?_;refine aQ 4 ?_;simp only[bi,ax,reduceIte,Nat.reduceEqDiff];cases a;cases b;simp_all
 try simp only[ah]at c1
 refine jd (dq ?_);refine go [.f,.N,.l,.f,.l,.N] ?_;refine cv call58 rfl rfl (eP _ _) ?_;refine go [.N,.n,.Z] ?_;refine cd (λc2=>?_) λc2=>?_
 ·try simp only[ah]at c2
  refine go [.R,.a,.Z] ?_;refine aQ 4 ?_;simp only[bi,ax,reduceIte,Nat.reduceEqDiff];cases a;cases b;simp_all
 try simp only[ah]at c2
 refine go [.J,.R,.a,.Z] ?_;refine aQ 4 ?_;simp only[bi,ax,reduceIte,Nat.reduceEqDiff];cases a;cases b;simp_all
theorem s5(a b:List ca):a_ prog 57 [.h aa [],.h (aa+1) []] [.rt aa .ro (tr a),.rt (aa+1) .ro (tr b)] (λy _=>y= .v (.bool (decide (a=b)))):=by
 refine ob func57 ntmps57 ?_;refine AW.len aa [] rfl (by simp[bT]) rfl (λhl=>?_);refine AW.len (aa+1) [] rfl (by simp[bT]) rfl (λhl2=>?_);refine go [.R,.a,.Z,.R2,.m,.h,.N,.m,.h,.b,.Z] ?_;refine cd (λc1=>?_) λc1=>?_
 ·try simp only[ah]at c1
  refine go [.R,.a,.Z] ?_;refine aQ 4 ?_;simp only[bi,ax,reduceIte,Nat.reduceEqDiff];rw[decide_eq_false (show a≠b from fa (by omega))]
 try simp only[ah]at c1
 refine jd (dq ?_);refine go [.a,.Z] ?_;refine AW.block ?_;refine AW.aL (λi:iJ a b=>[.sl 5 (.v (iv i.k)),.sl 0 (.h aa []),.sl 1 (.h (aa+1) []),.rt aa .ro (tr a),.rt (aa+1) .ro (tr b)]) (λi=>a.length-i.k) ⟨0,zero_le _,rfl⟩ (ws) ?_;intro i;have hle:=i.le;refine go [.R2,.m,.N,.m,.h,.b,.Z] ?_;refine cd (λc2=>?_) λc2=>?_
 ·try simp only[ah]at c2
  refine jd (AW.seq (AW.block (AW.seq ?_)));refine go [.D [0,1,2,3,4,5,6,7,9],.t 0,.m,.N,.t 1,.m,.t 2,.i,.t 3,.G,.N,.t 4,.m,.t 5,.m,.t 6,.i,.N,.t 7,.G] ?_;refine a1 8 [] [7,3,6,2,5,4,1,0] rfl rfl (aE.aC rfl (by decide) call128 rfl rfl (wc _ _)) ?_;refine go [.N,.t 9,.n,.Z] ?_;refine cd (λc3=>?_) λc3=>?_
  ·try simp only[ah]at c3
   refine go [.R,.a,.Z] ?_;refine aQ 4 ?_;simp only[bi,ax,reduceIte,Nat.reduceEqDiff];rw[decide_eq_false (show a≠b from i.stop En.ab (by simpa using c3))]
  try simp only[ah]at c3
  refine go [.J,.R1,.m,.N,.b,.a,.Z] ?_;refine⟨⟨i.k+1,by omega,i.next En.ab (by omega) (by omega) (by simpa using c3)⟩,ws,?_⟩;dsimp only;omega
 try simp only[ah]at c2
 refine AW.exit ?_;dsimp only[aD,au,reduceIte];refine go [.R,.a,.Z] ?_;refine aQ 4 ?_;simp only[bi,ax,reduceIte,Nat.reduceEqDiff];rw[decide_eq_true (show a=b from i.full (by omega) (by omega))]
theorem yc(a b:oj):a_ prog 179 [.g [.v (iv a.Pc),.h aa []],.g [.v (iv b.Pc),.h (aa+1) []]] [.rt aa .ro (tr a.b_),.rt (aa+1) .ro (tr b.b_)] (λy _=>y= .v (.bool (decide (a=b)))):=by
 refine ob func179 ntmps179 ?_;refine go [.R,.B,.N,.B,.N,.a,.Z,.R2,.f,.l,.N,.f,.l,.b,.Z] ?_;refine cd (λc1=>?_) λc1=>?_
 ·try simp only[ah]at c1
  refine go [.R,.a,.Z] ?_;refine aQ 4 ?_;simp only[bi,ax,reduceIte,Nat.reduceEqDiff];cases a;cases b;simp_all
 try simp only[ah]at c1
 refine jd (dq ?_);refine go [.f,.N,.l,.f,.l,.N] ?_;refine cv call58 rfl rfl (eP _ _) ?_;refine go [.N,.n,.Z] ?_;refine cd (λc2=>?_) λc2=>?_
 ·try simp only[ah]at c2
  refine go [.R,.a,.Z] ?_;refine aQ 4 ?_;simp only[bi,ax,reduceIte,Nat.reduceEqDiff];cases a;cases b;simp_all
 try simp only[ah]at c2
 refine go [.J,.R,.a,.Z] ?_;refine aQ 4 ?_;simp only[bi,ax,reduceIte,Nat.reduceEqDiff];cases a;cases b;simp_all
theorem ur(a b:dy):a_ prog 129 [.g [.v (iv a.ey),.v (iv a.bM),.v (iv a.State),.v (iv a.dX),.v (iv a.dh.Pc),.h aa [],.h (aa+1) [],.h (aa+2) [],.v (iv a.cJ),.v (iv a.Code)],.g [.v (iv b.ey),.v (iv b.bM),.v (iv b.State),.v (iv b.dX),.v (iv b.dh.Pc),.h (aa+3) [],.h (aa+4) [],.h (aa+5) [],.v (iv b.cJ),.v (iv b.Code)]] [.rt aa .ro (tr a.dh.b_),.rt (aa+1) .ro (tr a.bf),.rt (aa+2) .ro (tr a.cH),.rt (aa+3) .ro (tr b.dh.b_),.rt (aa+4) .ro (tr b.bf),.rt (aa+5) .ro (tr b.cH)] (λy _=>y= .v (.bool (decide (a=b)))):=by
 refine ob func129 ntmps129 ?_;refine go [.R,.B,.N,.B,.N,.a,.Z,.R2,.f,.l,.N,.f,.l,.b,.Z] ?_;refine cd (λc1=>?_) λc1=>?_
 ·try simp only[ah]at c1
  refine go [.R,.a,.Z] ?_;refine aQ 4 ?_;simp only[bi,ax,reduceIte,Nat.reduceEqDiff];cases a;cases b;simp_all
 try simp only[ah]at c1
 refine jd (dq ?_);refine go [.f,.N,.l,.f,.l,.N,.b,.Z] ?_;refine cd (λc2=>?_) λc2=>?_
 ·try simp only[ah]at c2
  refine go [.R,.a,.Z] ?_;refine aQ 4 ?_;simp only[bi,ax,reduceIte,Nat.reduceEqDiff];cases a;cases b;simp_all
 try simp only[ah]at c2
 refine jd (dq ?_);refine go [.f,.N,.l,.f,.l,.N,.b,.Z] ?_;refine cd (λc3=>?_) λc3=>?_
 ·try simp only[ah]at c3
  refine go [.R,.a,.Z] ?_;refine aQ 4 ?_;simp only[bi,ax,reduceIte,Nat.reduceEqDiff];cases a;cases b;simp_all
 try simp only[ah]at c3
 refine jd (dq ?_);refine go [.f,.N,.l,.f,.l,.N,.b,.Z] ?_;refine cd (λc4=>?_) λc4=>?_
 ·try simp only[ah]at c4
  refine go [.R,.a,.Z] ?_;refine aQ 4 ?_;simp only[bi,ax,reduceIte,Nat.reduceEqDiff];cases a;cases b;simp_all
 try simp only[ah]at c4
 refine jd (dq ?_);refine go [.f,.N,.G,.f,.G,.N] ?_;refine cv call179 rfl rfl (yc _ _) ?_;refine go [.N,.n,.Z] ?_;refine cd (λc5=>?_) λc5=>?_
 ·try simp only[ah]at c5
  refine go [.R,.a,.Z] ?_;refine aQ 4 ?_;simp only[bi,ax,reduceIte,Nat.reduceEqDiff];cases a;cases b;simp_all
 try simp only[ah]at c5
 refine jd (dq ?_);refine go [.f,.N,.l,.f,.l,.N] ?_;refine cv call58 rfl rfl (eP _ _) ?_;refine go [.N,.n,.Z] ?_;refine cd (λc6=>?_) λc6=>?_
 ·try simp only[ah]at c6
  refine go [.R,.a,.Z] ?_;refine aQ 4 ?_;simp only[bi,ax,reduceIte,Nat.reduceEqDiff];cases a;cases b;simp_all
 try simp only[ah]at c6
 refine jd (dq ?_);refine go [.f,.N,.l,.f,.l,.N] ?_;refine cv call58 rfl rfl (eP _ _) ?_;refine go [.N,.n,.Z] ?_;refine cd (λc7=>?_) λc7=>?_
 ·try simp only[ah]at c7
  refine go [.R,.a,.Z] ?_;refine aQ 4 ?_;simp only[bi,ax,reduceIte,Nat.reduceEqDiff];cases a;cases b;simp_all
 try simp only[ah]at c7
 refine jd (dq ?_);refine go [.f,.N,.l,.f,.l,.N,.b,.Z] ?_;refine cd (λc8=>?_) λc8=>?_
 ·try simp only[ah]at c8
  refine go [.R,.a,.Z] ?_;refine aQ 4 ?_;simp only[bi,ax,reduceIte,Nat.reduceEqDiff];cases a;cases b;simp_all
 try simp only[ah]at c8
 refine jd (dq ?_);refine go [.f,.N,.l,.f,.l,.N,.b,.Z] ?_;refine cd (λc9=>?_) λc9=>?_
 ·try simp only[ah]at c9
  refine go [.R,.a,.Z] ?_;refine aQ 4 ?_;simp only[bi,ax,reduceIte,Nat.reduceEqDiff];cases a;cases b;simp_all
 try simp only[ah]at c9
 refine go [.J,.R,.a,.Z] ?_;refine aQ 4 ?_;simp only[bi,ax,reduceIte,Nat.reduceEqDiff];cases a;cases b;simp_all
theorem rU(a b:List dy):a_ prog 59 [.h aa [],.h (aa+1) []] [.rt aa .ro (tr a),.rt (aa+1) .ro (tr b)] (λy _=>y= .v (.bool (decide (a=b)))):=by
 refine ob func59 ntmps59 ?_;refine AW.len aa [] rfl (by simp[bT]) rfl (λhl=>?_);refine AW.len (aa+1) [] rfl (by simp[bT]) rfl (λhl2=>?_);refine go [.R,.a,.Z,.R2,.m,.h,.N,.m,.h,.b,.Z] ?_;refine cd (λc1=>?_) λc1=>?_
 ·try simp only[ah]at c1
  refine go [.R,.a,.Z] ?_;refine aQ 4 ?_;simp only[bi,ax,reduceIte,Nat.reduceEqDiff];rw[decide_eq_false (show a≠b from fa (by omega))]
 try simp only[ah]at c1
 refine jd (dq ?_);refine go [.a,.Z] ?_;refine AW.block ?_;refine AW.aL (λi:iJ a b=>[.sl 5 (.v (iv i.k)),.sl 0 (.h aa []),.sl 1 (.h (aa+1) []),.rt aa .ro (tr a),.rt (aa+1) .ro (tr b)]) (λi=>a.length-i.k) ⟨0,zero_le _,rfl⟩ (ws) ?_;intro i;have hle:=i.le;refine go [.R2,.m,.N,.m,.h,.b,.Z] ?_;refine cd (λc2=>?_) λc2=>?_
 ·try simp only[ah]at c2
  refine jd (AW.seq (AW.block (AW.seq ?_)));refine go [.D [0,1,2,3,4,5,6,7,9],.t 0,.m,.N,.t 1,.m,.t 2,.i,.t 3,.G,.N,.t 4,.m,.t 5,.m,.t 6,.i,.N,.t 7,.G] ?_;refine a1 8 [] [7,3,6,2,5,4,1,0] rfl rfl (aE.aC rfl (by decide) call129 rfl rfl (ur _ _)) ?_;refine go [.N,.t 9,.n,.Z] ?_;refine cd (λc3=>?_) λc3=>?_
  ·try simp only[ah]at c3
   refine go [.R,.a,.Z] ?_;refine aQ 4 ?_;simp only[bi,ax,reduceIte,Nat.reduceEqDiff];rw[decide_eq_false (show a≠b from i.stop En.ab (by simpa using c3))]
  try simp only[ah]at c3
  refine go [.J,.R1,.m,.N,.b,.a,.Z] ?_;refine⟨⟨i.k+1,by omega,i.next En.ab (by omega) (by omega) (by simpa using c3)⟩,ws,?_⟩;dsimp only;omega
 try simp only[ah]at c2
 refine AW.exit ?_;dsimp only[aD,au,reduceIte];refine go [.R,.a,.Z] ?_;refine aQ 4 ?_;simp only[bi,ax,reduceIte,Nat.reduceEqDiff];rw[decide_eq_true (show a=b from i.full (by omega) (by omega))]
theorem nt(a b:List (List Int)):a_ prog 130 [.h aa [],.h (aa+1) []] [.rt aa .ro (tr a),.rt (aa+1) .ro (tr b)] (λy _=>y= .v (.bool (decide (a=b)))):=by
 refine ob func130 ntmps130 ?_;refine AW.len aa [] rfl (by simp[bT]) rfl (λhl=>?_);refine AW.len (aa+1) [] rfl (by simp[bT]) rfl (λhl2=>?_);refine go [.R,.a,.Z,.R2,.m,.h,.N,.m,.h,.b,.Z] ?_;refine cd (λc1=>?_) λc1=>?_
 ·try simp only[ah]at c1
  refine go [.R,.a,.Z] ?_;refine aQ 4 ?_;simp only[bi,ax,reduceIte,Nat.reduceEqDiff];rw[decide_eq_false (show a≠b from fa (by omega))]
 try simp only[ah]at c1
 refine jd (dq ?_);refine go [.a,.Z] ?_;refine AW.block ?_;refine AW.aL (λi:iJ a b=>[.sl 5 (.v (iv i.k)),.sl 0 (.h aa []),.sl 1 (.h (aa+1) []),.rt aa .ro (tr a),.rt (aa+1) .ro (tr b)]) (λi=>a.length-i.k) ⟨0,zero_le _,rfl⟩ (ws) ?_;intro i;have hle:=i.le;refine go [.R2,.m,.N,.m,.h,.b,.Z] ?_;refine cd (λc2=>?_) λc2=>?_
 ·try simp only[ah]at c2
  refine jd (AW.seq (AW.block (AW.seq ?_)));refine go [.D [0,1,2,3,4,5,6,7,9],.t 0,.m,.N,.t 1,.m,.t 2,.i,.t 3,.l,.N,.t 4,.m,.t 5,.m,.t 6,.i,.N,.t 7,.l] ?_;refine a1 8 [] [7,3,6,2,5,4,1,0] rfl rfl (aE.aC rfl (by decide) call58 rfl rfl (eP _ _)) ?_;refine go [.N,.t 9,.n,.Z] ?_;refine cd (λc3=>?_) λc3=>?_
  ·try simp only[ah]at c3
   refine go [.R,.a,.Z] ?_;refine aQ 4 ?_;simp only[bi,ax,reduceIte,Nat.reduceEqDiff];rw[decide_eq_false (show a≠b from i.stop En.ab (by simpa using c3))]
  try simp only[ah]at c3
  refine go [.J,.R1,.m,.N,.b,.a,.Z] ?_;refine⟨⟨i.k+1,by omega,i.next En.ab (by omega) (by omega) (by simpa using c3)⟩,ws,?_⟩;dsimp only;omega
 try simp only[ah]at c2
 refine AW.exit ?_;dsimp only[aD,au,reduceIte];refine go [.R,.a,.Z] ?_;refine aQ 4 ?_;simp only[bi,ax,reduceIte,Nat.reduceEqDiff];rw[decide_eq_true (show a=b from i.full (by omega) (by omega))]
theorem uY(a b:gC):a_ prog 60 [.g [.h aa []],.g [.h (aa+1) []]] [.rt aa .ro (tr a.aZ),.rt (aa+1) .ro (tr b.aZ)] (λy _=>y= .v (.bool (decide (a=b)))):=by
 refine ob func60 ntmps60 ?_;refine go [.R,.B,.N,.B,.N,.a,.Z,.R2,.f,.l,.N,.f,.l] ?_;refine cv call130 rfl rfl (nt _ _) ?_;refine go [.N,.n,.Z] ?_;refine cd (λc1=>?_) λc1=>?_
 ·try simp only[ah]at c1
  refine go [.R,.a,.Z] ?_;refine aQ 4 ?_;simp only[bi,ax,reduceIte,Nat.reduceEqDiff];cases a;cases b;simp_all
 try simp only[ah]at c1
 refine go [.J,.R,.a,.Z] ?_;refine aQ 4 ?_;simp only[bi,ax,reduceIte,Nat.reduceEqDiff];cases a;cases b;simp_all
theorem sH(a b:dd):a_ prog 131 [.g [.v (iv a.Id),.h aa []],.g [.v (iv b.Id),.h (aa+1) []]] [.rt aa .ro (tr a.bo),.rt (aa+1) .ro (tr b.bo)] (λy _=>y= .v (.bool (decide (a=b)))):=by
 refine ob func131 ntmps131 ?_;refine go [.R,.B,.N,.B,.N,.a,.Z,.R2,.f,.l,.N,.f,.l,.b,.Z] ?_;refine cd (λc1=>?_) λc1=>?_
 ·try simp only[ah]at c1
  refine go [.R,.a,.Z] ?_;refine aQ 4 ?_;simp only[bi,ax,reduceIte,Nat.reduceEqDiff];cases a;cases b;simp_all
 try simp only[ah]at c1
 refine jd (dq ?_);refine go [.f,.N,.l,.f,.l,.N] ?_;refine cv call130 rfl rfl (nt _ _) ?_;refine go [.N,.n,.Z] ?_;refine cd (λc2=>?_) λc2=>?_
 ·try simp only[ah]at c2
  refine go [.R,.a,.Z] ?_;refine aQ 4 ?_;simp only[bi,ax,reduceIte,Nat.reduceEqDiff];cases a;cases b;simp_all
 try simp only[ah]at c2
 refine go [.J,.R,.a,.Z] ?_;refine aQ 4 ?_;simp only[bi,ax,reduceIte,Nat.reduceEqDiff];cases a;cases b;simp_all
theorem q8(a b:List dd):a_ prog 61 [.h aa [],.h (aa+1) []] [.rt aa .ro (tr a),.rt (aa+1) .ro (tr b)] (λy _=>y= .v (.bool (decide (a=b)))):=by
 refine ob func61 ntmps61 ?_;refine AW.len aa [] rfl (by simp[bT]) rfl (λhl=>?_);refine AW.len (aa+1) [] rfl (by simp[bT]) rfl (λhl2=>?_);refine go [.R,.a,.Z,.R2,.m,.h,.N,.m,.h,.b,.Z] ?_;refine cd (λc1=>?_) λc1=>?_
 ·try simp only[ah]at c1
  refine go [.R,.a,.Z] ?_;refine aQ 4 ?_;simp only[bi,ax,reduceIte,Nat.reduceEqDiff];rw[decide_eq_false (show a≠b from fa (by omega))]
 try simp only[ah]at c1
 refine jd (dq ?_);refine go [.a,.Z] ?_;refine AW.block ?_;refine AW.aL (λi:iJ a b=>[.sl 5 (.v (iv i.k)),.sl 0 (.h aa []),.sl 1 (.h (aa+1) []),.rt aa .ro (tr a),.rt (aa+1) .ro (tr b)]) (λi=>a.length-i.k) ⟨0,zero_le _,rfl⟩ (ws) ?_;intro i;have hle:=i.le;refine go [.R2,.m,.N,.m,.h,.b,.Z] ?_;refine cd (λc2=>?_) λc2=>?_
 ·try simp only[ah]at c2
  refine jd (AW.seq (AW.block (AW.seq ?_)));refine go [.D [0,1,2,3,4,5,6,7,9],.t 0,.m,.N,.t 1,.m,.t 2,.i,.t 3,.G,.N,.t 4,.m,.t 5,.m,.t 6,.i,.N,.t 7,.G] ?_;refine a1 8 [] [7,3,6,2,5,4,1,0] rfl rfl (aE.aC rfl (by decide) call131 rfl rfl (sH _ _)) ?_;refine go [.N,.t 9,.n,.Z] ?_;refine cd (λc3=>?_) λc3=>?_
  ·try simp only[ah]at c3
   refine go [.R,.a,.Z] ?_;refine aQ 4 ?_;simp only[bi,ax,reduceIte,Nat.reduceEqDiff];rw[decide_eq_false (show a≠b from i.stop En.ab (by simpa using c3))]
  try simp only[ah]at c3
  refine go [.J,.R1,.m,.N,.b,.a,.Z] ?_;refine⟨⟨i.k+1,by omega,i.next En.ab (by omega) (by omega) (by simpa using c3)⟩,ws,?_⟩;dsimp only;omega
 try simp only[ah]at c2
 refine AW.exit ?_;dsimp only[aD,au,reduceIte];refine go [.R,.a,.Z] ?_;refine aQ 4 ?_;simp only[bi,ax,reduceIte,Nat.reduceEqDiff];rw[decide_eq_true (show a=b from i.full (by omega) (by omega))]
theorem sQ(a b:bC):a_ prog 11 [.g [.v (iv a.Next),.v (iv a.bp),.h aa [],.h (aa+1) [],.h (aa+2) [],.h (aa+3) [],.h (aa+4) [],.h (aa+5) [],.h (aa+6) [],.h (aa+7) [],.h (aa+8) []],.g [.v (iv b.Next),.v (iv b.bp),.h (aa+9) [],.h (aa+10) [],.h (aa+11) [],.h (aa+12) [],.h (aa+13) [],.h (aa+14) [],.h (aa+15) [],.h (aa+16) [],.h (aa+17) []]] [.rt aa .ro (tr a.aP),.rt (aa+1) .ro (tr a.ag),.rt (aa+2) .ro (tr a.fx),.rt (aa+3) .ro (tr a.Heap.aZ),.rt (aa+4) .ro (tr a.ao),.rt (aa+5) .ro (tr a.ak),.rt (aa+6) .ro (tr a.ay),.rt (aa+7) .ro (tr a.aN),.rt (aa+8) .ro (tr a.Out),.rt (aa+9) .ro (tr b.aP),.rt (aa+10) .ro (tr b.ag),.rt (aa+11) .ro (tr b.fx),.rt (aa+12) .ro (tr b.Heap.aZ),.rt (aa+13) .ro (tr b.ao),.rt (aa+14) .ro (tr b.ak),.rt (aa+15) .ro (tr b.ay),.rt (aa+16) .ro (tr b.aN),.rt (aa+17) .ro (tr b.Out)] (λy _=>y= .v (.bool (decide (a=b)))):=by
 refine ob func11 ntmps11 ?_;refine go [.R,.B,.N,.B,.N,.a,.Z,.R2,.f,.l,.N,.f,.l,.b,.Z] ?_;refine cd (λc1=>?_) λc1=>?_
 ·try simp only[ah]at c1
  refine go [.R,.a,.Z] ?_;refine aQ 4 ?_;simp only[bi,ax,reduceIte,Nat.reduceEqDiff];cases a;cases b;simp_all
 try simp only[ah]at c1
 refine jd (dq ?_);refine go [.f,.N,.l,.f,.l,.N,.b,.Z] ?_;refine cd (λc2=>?_) λc2=>?_
 ·try simp only[ah]at c2
  refine go [.R,.a,.Z] ?_;refine aQ 4 ?_;simp only[bi,ax,reduceIte,Nat.reduceEqDiff];cases a;cases b;simp_all
 try simp only[ah]at c2
 refine jd (dq ?_);refine go [.f,.N,.l,.f,.l,.N] ?_;refine cv call53 rfl rfl (sV _ _) ?_;refine go [.N,.n,.Z] ?_;refine cd (λc3=>?_) λc3=>?_
 ·try simp only[ah]at c3
  refine go [.R,.a,.Z] ?_;refine aQ 4 ?_;simp only[bi,ax,reduceIte,Nat.reduceEqDiff];cases a;cases b;simp_all
 try simp only[ah]at c3
 refine jd (dq ?_);refine go [.f,.N,.l,.f,.l,.N] ?_;refine cv call59 rfl rfl (rU _ _) ?_;refine go [.N,.n,.Z] ?_;refine cd (λc4=>?_) λc4=>?_
 ·try simp only[ah]at c4
  refine go [.R,.a,.Z] ?_;refine aQ 4 ?_;simp only[bi,ax,reduceIte,Nat.reduceEqDiff];cases a;cases b;simp_all
 try simp only[ah]at c4
 refine jd (dq ?_);refine go [.f,.N,.l,.f,.l,.N] ?_;refine cv call58 rfl rfl (eP _ _) ?_;refine go [.N,.n,.Z] ?_;refine cd (λc5=>?_) λc5=>?_
 ·try simp only[ah]at c5
  refine go [.R,.a,.Z] ?_;refine aQ 4 ?_;simp only[bi,ax,reduceIte,Nat.reduceEqDiff];cases a;cases b;simp_all
 try simp only[ah]at c5
 refine jd (dq ?_);refine go [.f,.N,.G,.f,.G,.N] ?_;refine cv call60 rfl rfl (uY _ _) ?_;refine go [.N,.n,.Z] ?_;refine cd (λc6=>?_) λc6=>?_
 ·try simp only[ah]at c6
  refine go [.R,.a,.Z] ?_;refine aQ 4 ?_;simp only[bi,ax,reduceIte,Nat.reduceEqDiff];cases a;cases b;simp_all
 try simp only[ah]at c6
 refine jd (dq ?_);refine go [.f,.N,.l,.f,.l,.N] ?_;refine cv call55 rfl rfl (sU _ _) ?_;refine go [.N,.n,.Z] ?_;refine cd (λc7=>?_) λc7=>?_
 ·try simp only[ah]at c7
  refine go [.R,.a,.Z] ?_;refine aQ 4 ?_;simp only[bi,ax,reduceIte,Nat.reduceEqDiff];cases a;cases b;simp_all
 try simp only[ah]at c7
 refine jd (dq ?_);refine go [.f,.N,.l,.f,.l,.N] ?_;refine cv call61 rfl rfl (q8 _ _) ?_;refine go [.N,.n,.Z] ?_;refine cd (λc8=>?_) λc8=>?_
 ·try simp only[ah]at c8
  refine go [.R,.a,.Z] ?_;refine aQ 4 ?_;simp only[bi,ax,reduceIte,Nat.reduceEqDiff];cases a;cases b;simp_all
 try simp only[ah]at c8
 refine jd (dq ?_);refine go [.f,.N,.l,.f,.l,.N] ?_;refine cv call57 rfl rfl (s5 _ _) ?_;refine go [.N,.n,.Z] ?_;refine cd (λc9=>?_) λc9=>?_
 ·try simp only[ah]at c9
  refine go [.R,.a,.Z] ?_;refine aQ 4 ?_;simp only[bi,ax,reduceIte,Nat.reduceEqDiff];cases a;cases b;simp_all
 try simp only[ah]at c9
 refine jd (dq ?_);refine go [.f,.N,.l,.f,.l,.N] ?_;refine cv call58 rfl rfl (eP _ _) ?_;refine go [.N,.n,.Z] ?_;refine cd (λc10=>?_) λc10=>?_
 ·try simp only[ah]at c10
  refine go [.R,.a,.Z] ?_;refine aQ 4 ?_;simp only[bi,ax,reduceIte,Nat.reduceEqDiff];cases a;cases b;simp_all
 try simp only[ah]at c10
 refine jd (dq ?_);refine go [.f,.N,.l,.f,.l,.N] ?_;refine cv call58 rfl rfl (eP _ _) ?_;refine go [.N,.n,.Z] ?_;refine cd (λc11=>?_) λc11=>?_
 ·try simp only[ah]at c11
  refine go [.R,.a,.Z] ?_;refine aQ 4 ?_;simp only[bi,ax,reduceIte,Nat.reduceEqDiff];cases a;cases b;simp_all
 try simp only[ah]at c11
 refine go [.J,.R,.a,.Z] ?_;refine aQ 4 ?_;simp only[bi,ax,reduceIte,Nat.reduceEqDiff];cases a;cases b;simp_all
structure bu where
 ey:Int
 bM:Int
 State:Int
 dX:Int
 dh:oj
 Mem:List Int
 cH:List Int
 cJ:Int
 Code:Int
deriving DecidableEq
instance:En bu:=⟨10,by omega,λa=>[.v (iv a.ey),.v (iv a.bM),.v (iv a.State),.v (iv a.dX),.v (iv a.dh.Pc),tr a.dh.b_,tr a.Mem,tr a.cH,.v (iv a.cJ),.v (iv a.Code)],λ_=>rfl,λa=>En.fit a.ey∧En.fit a.bM∧En.fit a.State∧En.fit a.dX∧En.fit a.dh∧En.fit a.Mem∧En.fit a.cH∧En.fit a.cJ∧En.fit a.Code,⟨0,0,0,0,⟨0,[]⟩,[],[],0,0⟩⟩
@[go_sem] theorem DU(a:bu):En.cs a=[.v (iv a.ey),.v (iv a.bM),.v (iv a.State),.v (iv a.dX),.v (iv a.dh.Pc),tr a.dh.b_,tr a.Mem,tr a.cH,.v (iv a.cJ),.v (iv a.Code)]:=rfl
instance:Mk bu:={ wt:=λa=>Mk.wt a.dh.b_+Mk.wt a.Mem+Mk.wt a.cH,dG:=λa=>1+1+1+1+1+(Mk.dG a.dh.b_)+(Mk.dG a.Mem)+(Mk.dG a.cH)+1+1,mark:=λa k=>⟨k,k+1,k+1+1,k+1+1+1,⟨k+1+1+1+1,Mk.mark a.dh.b_ (k+1+1+1+1+1)⟩,Mk.mark a.Mem (k+1+1+1+1+1+(Mk.dG a.dh.b_:Nat)),Mk.mark a.cH (k+1+1+1+1+1+(Mk.dG a.dh.b_:Nat)+(Mk.dG a.Mem:Nat)),k+1+1+1+1+1+(Mk.dG a.dh.b_:Nat)+(Mk.dG a.Mem:Nat)+(Mk.dG a.cH:Nat),k+1+1+1+1+1+(Mk.dG a.dh.b_:Nat)+(Mk.dG a.Mem:Nat)+(Mk.dG a.cH:Nat)+1⟩,dD:=λa k=>by simp[Mk.dD] }
structure cK where
 Id:Int
 Data:List Int
deriving DecidableEq
instance:En cK:=⟨2,by omega,λa=>[.v (iv a.Id),tr a.Data],λ_=>rfl,λa=>En.fit a.Id∧En.fit a.Data,⟨0,[]⟩⟩
@[go_sem] theorem DW(a:cK):En.cs a=[.v (iv a.Id),tr a.Data]:=rfl
structure aX where
 Next:Int
 bp:Int
 aP:List (List cU)
 ag:List bu
 ao:List az
 ak:List cK
 ay:List ca
 aN:List Int
 Out:List Int
deriving DecidableEq
instance:En aX:=⟨9,by omega,λa=>[.v (iv a.Next),.v (iv a.bp),tr a.aP,tr a.ag,tr a.ao,tr a.ak,tr a.ay,tr a.aN,tr a.Out],λ_=>rfl,λa=>En.fit a.Next∧En.fit a.bp∧En.fit a.aP∧En.fit a.ag∧En.fit a.ao∧En.fit a.ak∧En.fit a.ay∧En.fit a.aN∧En.fit a.Out,⟨0,0,[],[],[],[],[],[],[]⟩⟩
@[go_sem] theorem DT(a:aX):En.cs a=[.v (iv a.Next),.v (iv a.bp),tr a.aP,tr a.ag,tr a.ao,tr a.ak,tr a.ay,tr a.aN,tr a.Out]:=rfl
end Go.Proofs.YtekcnnngjoonbaaGreat.VM
