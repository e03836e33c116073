/- Contracts. No conditions. -/
import Derived.Test.YtekcnnngjoonbaaGreatWi
import Derived.Test.YtekcnnngjoonbaaGreatWj
set_option linter.all false
set_option maxHeartbeats 8000000
set_option maxRecDepth 10000
namespace Go.Proofs.YtekcnnngjoonbaaGreat.VM
open List Nat
open Go Go.RowKit
def iE(l:List (List Int))(i:Nat):Bool:=decide (1≤(l.getD i En.ab).length)&&decide ((l.getD i En.ab).length≤2)&& !(decide ((l.getD i En.ab).length=1)&&decide (0<i)&&decide (i+1<l.length))
def fg(l:List (List Int)):Bool:=fC (iE l) l.length
open Go Go.RowKit Go.Proofs
theorem pr(p:dp):bf Tryz.prog 80 [.g [.v (iv p.Id), .h aa []]] [.rt aa .ro (tr p.bn)] (λy _=>y= .v (.bool (fg p.bn))):=by
 refine ob Tryz.func80 Tryz.ntmps80 ?_;refine AW.len (aa) [] rfl (by simp[ck]) rfl (λhl=>?_);refine go [.R,.B,.N,.a,.Z,.R2,.a,.Z] (k:=?_);refine AW.block ?_;refine AW.bw (λi:qO (iE p.bn) p.bn.length=>[.sl 3 (.v (iv i.k)), .rt 1 .box (T.s 2 1 λk c=>([(T.v (iv p.Id),none),(T.j,none)].getD (k*2+c) (T.j,none)).fst), .al 1 1 (.h aa []), .rt aa .ro (tr p.bn), .sl 1 (.p 1 [] 2 0 0)]) (λi=>p.bn.length-i.k) ⟨0,zero_le _,λ_ h=>absurd h (by omega)⟩ (ws) ?_;intro i;have hle:=i.le;refine go [.R2,.m,.N,.f,.l,.h,.N,.b,.Z] (k:=?_);refine cd (λc1=>?_) λc1=>?_
 ·try simp only[ai]at c1
  refine jd (AW.seq (AW.block (sr ?_)));refine go [.f,.l,.N,.m,.i,.l,.N,.h,.a,.Z,.R,.m,.N] (k:=?_);refine cv Tryz.call135 rfl rfl (cY _ _ _) ?_;refine go [.N,.n,.m] (k:=?_);apply az.cut 14
  ·intro Kg2;refine az.bA 21 rfl (λg2=>?_) (λg2=>?_)
   ·have eg2:=g2
    try simp only[ai]at eg2
    refine go [.m,.N,.b,.m] (k:=?_);apply az.cut 2
    ·intro Kg3;refine az.split 24 rfl (λg3=>?_) (λg3=>?_)
     ·have eg3:=g3
      try simp only[ai]at eg3
      refine go [.m,.N,.b] (k:=?_);exact bZ 26 [25,26] (b6 g3 _ undef) Kg3
     ·refine go [.x,.x] (k:=?_);exact bX 26 [25,26] (bY g3 undef _) Kg3
    refine qg (nF g2) (Qt.aD rfl rfl rfl) ?_;refine go [.m,.N] (k:=?_);apply az.cut 6
    ·intro Kg4;refine az.split 28 rfl (λg4=>?_) (λg4=>?_)
     ·have eg4:=g4
      try simp only[ai]at eg4
      refine go [.m,.f,.l,.N,.h,.b,.b,.N] (k:=?_);exact bZ 34 [29,30,31,32,33,34] (b6 g4 _ undef) Kg4
     ·refine go [.x,.x,.x,.x,.N,.x,.x] (k:=?_);exact bX 34 [29,30,31,32,33,34] (bY g4 undef _) Kg4
    refine qg (nF g2) (Qt.aD rfl rfl rfl) ?_;exact bZ 35 [22,23,24,25,26,27,28,29,30,31,32,33,34,35] (bY g2 _ undef) Kg2
   ·refine go [.x,.x,.x,.x,.N,.x,.x,.x,.x,.N,.x,.x,.x,.x,.N,.x,.x] (k:=?_);exact bX 35 [22,23,24,25,26,27,28,29,30,31,32,33,34,35] (b6 g2 undef _) Kg2
  refine qq (Qt.bz rfl rfl rfl) ?_;refine go [.Z] (k:=?_);refine cd (λc5=>?_) λc5=>?_
  ·have k5:=c5
   try simp only[ai]at c5
   have hq:iE p.bn i.k=false:=by
    have hk:=k5;simp only[iE]
    grind
   refine go [.R,.a,.Z] (k:=?_);refine aM 2 ?_;rw[show fg p.bn=false from i.stop (by omega) hq];rfl
  have k5:=c5
  try simp only[ai]at c5
  have hq:iE p.bn i.k=true:=by
   have hk:=k5;simp only[iE]
   grind
  refine go [.J,.R1,.m,.N,.b,.a,.Z] (k:=?_);refine⟨⟨i.k+1,by omega,i.next hq⟩,ws,?_⟩;show p.bn.length-(i.k+1)<p.bn.length-i.k;omega
 try simp only[ai]at c1
 refine AW.exit ?_;dsimp only[aJ,ay,reduceIte];refine go [.R,.a,.Z] (k:=?_);refine aM 2 ?_;rw[show fg p.bn=true from i.full (by omega)];rfl
end Go.Proofs.YtekcnnngjoonbaaGreat.VM

