/- Contracts. No conditions. -/
import Derived.Test.YtekcnnngjoonbaaGreatWJ
set_option linter.all false
set_option maxHeartbeats 8000000
set_option maxRecDepth 10000
namespace Go.Proofs.YtekcnnngjoonbaaGreat.VM
open List Nat
open Go Go.RowKit
theorem yY{α:Type}[Mk α](l:List α)(x:α):Mk.wt (l++[x])=Mk.wt l+(Mk.wt x+1):=by
 rw[da,da]
 induction l with
 | nil=>simp[lN];omega
 | cons y l ih=>simp only[lN,cons_append,map_cons,foldr_cons,length_cons]at ih ⊢;omega
theorem wS{α:Type}[Mk α](key:α→Int)(x:α):∀l:List α,Mk.wt (bO key l x)=Mk.wt l+(Mk.wt x+1)
 | []=>yY [] x
 | y :: l=>by
  have h:∀(z:α) (m:List α),Mk.wt (z :: m)=Mk.wt m+(Mk.wt z+1):=λz m=>by
   rw[da,da];simp only[lN,map_cons,foldr_cons,length_cons];omega
  rw[bO];split
  ·rw[h x]
  ·rw[h,h,wS key x l];omega
theorem yB{α:Type}[Mk α](key:α→Int)(l:List α):Mk.wt (ap key l)=Mk.wt l:=by
 have h:∀(l acc:List α),Mk.wt (l.foldl (bO key) acc)=Mk.wt acc+Mk.wt l:=λl=>by
  induction l with
  | nil=>intro acc;rfl
  | cons x l ih=>
   intro acc;rw[foldl_cons,ih,wS,da (x :: l),da l];simp only[lN,map_cons,foldr_cons,length_cons];omega
 rw[ap,h];show 0+_=_;omega
theorem ua(jo fs:List Int)(k:Nat):(jG jo fs k).length≤4*k:=by
 unfold jG;rw[length_flatten,map_map];have h:∀l:List Int,(l.map (length ∘ wG jo)).sum≤4*l.length:=λl=>by
  induction l with
  | nil=>exact Nat.le_refl _
  | cons x l ih=>
   have:(length ∘ wG jo) x≤4:=by show(wG jo x).length≤4;unfold wG;exact length_take_le _ _
   simp only[map_cons,sum_cons,length_cons];omega
 have:=h (fs.take k);have:=length_take_le k fs;omega
/-- a process has at most four words for each page -/
theorem xw(a:bH)(p:dD):Mk.wt (fU a p)≤4*Mk.wt p:=by
 have e:Mk.wt (fU a p)=Mk.wt p.d_.cy+Mk.wt (jG a.fb p.bb.reverse p.bb.length)+Mk.wt p.cV:=rfl;have e2:Mk.wt p=Mk.wt p.d_.cy+Mk.wt p.bb+Mk.wt p.cV:=rfl;have h:=ua a.fb p.bb.reverse p.bb.length;have h2:=ed p.bb;rw[ed (jG _ _ _)]at e;omega
theorem w5{α β:Type}[Mk α][Mk β](f:α→β){K:Nat}(hK:1≤K)(h:∀x,Mk.wt (f x)≤K*Mk.wt x):∀l:List α,Mk.wt (l.map f)≤K*Mk.wt l
 | []=>zero_le _
 | x :: l=>by
  have h1:=w5 f hK h l;have h2:=h x;have e1:Mk.wt (f x :: l.map f)=Mk.wt (l.map f)+(Mk.wt (f x)+1):=by
   rw[da,da];simp only[lN,map_cons,foldr_cons,length_cons];omega
  have e2:Mk.wt (x :: l)=Mk.wt l+(Mk.wt x+1):=by
   rw[da,da];simp only[lN,map_cons,foldr_cons,length_cons];omega
  rw[map_cons,e1,e2,Nat.mul_add,Nat.mul_add,Nat.mul_one];omega
end Go.Proofs.YtekcnnngjoonbaaGreat.VM
