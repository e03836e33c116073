/- Contracts. No conditions. -/
import Derived.Test.YtekcnnngjoonbaaGreatWP
import Derived.Test.YtekcnnngjoonbaaGreatWp
import Derived.Test.YtekcnnngjoonbaaGreatWw
import Derived.Test.YtekcnnngjoonbaaGreatWx
import Derived.Test.YtekcnnngjoonbaaGreatWy
set_option linter.all false
set_option maxHeartbeats 8000000
set_option maxRecDepth 10000
namespace Go.Proofs.YtekcnnngjoonbaaGreat.VM
open List Nat
open Go Go.RowKit
theorem AD{α:Type}[Mk α](l:List α)(x:α):Mk.wt (l++[x])=Mk.wt l+(Mk.wt x+1):=by
 rw[cX,cX]
 induction l with
 | nil=>simp[mE];omega
 | cons y l ih=>simp only[mE,cons_append,map_cons,foldr_cons,length_cons]at ih ⊢;omega
theorem z_{α:Type}[Mk α](key:α→Int)(x:α):∀l:List α,Mk.wt (bL key l x)=Mk.wt l+(Mk.wt x+1)
 | []=>AD [] x
 | y :: l=>by
  have h:∀(z:α) (m:List α),Mk.wt (z :: m)=Mk.wt m+(Mk.wt z+1):=λz m=>by
   rw[cX,cX];simp only[mE,map_cons,foldr_cons,length_cons];omega
  rw[bL];split
  ·rw[h x]
  ·rw[h,h,z_ key x l];omega
theorem AB{α:Type}[Mk α](key:α→Int)(l:List α):Mk.wt (ap key l)=Mk.wt l:=by
 have h:∀(l acc:List α),Mk.wt (l.foldl (bL key) acc)=Mk.wt acc+Mk.wt l:=λl=>by
  induction l with
  | nil=>intro acc;rfl
  | cons x l ih=>
   intro acc;rw[foldl_cons,ih,z_,cX (x :: l),cX l];simp only[mE,map_cons,foldr_cons,length_cons];omega
 rw[ap,h];show 0+_=_;omega
theorem vH(jt fs:List Int)(k:Nat):(j5 jt fs k).length≤4*k:=by
 unfold j5;rw[length_flatten,map_map];have h:∀l:List Int,(l.map (length ∘ yi jt)).sum≤4*l.length:=λl=>by
  induction l with
  | nil=>exact Nat.le_refl _
  | cons x l ih=>
   have:(length ∘ yi jt) x≤4:=by show(yi jt x).length≤4;unfold yi;exact length_take_le _ _
   simp only[map_cons,sum_cons,length_cons];omega
 have:=h (fs.take k);have:=length_take_le k fs;omega
/-- a process has at most four words for each page -/
theorem yn(a:bC)(p:dy):Mk.wt (fJ a p)≤4*Mk.wt p:=by
 have e:Mk.wt (fJ a p)=Mk.wt p.dh.b_+Mk.wt (j5 a.fx p.bf.reverse p.bf.length)+Mk.wt p.cH:=rfl;have e2:Mk.wt p=Mk.wt p.dh.b_+Mk.wt p.bf+Mk.wt p.cH:=rfl;have h:=vH a.fx p.bf.reverse p.bf.length;have h2:=dY p.bf;rw[dY (j5 _ _ _)]at e;omega
theorem yE{α β:Type}[Mk α][Mk β](f:α→β){K:Nat}(hK:1≤K)(h:∀x,Mk.wt (f x)≤K*Mk.wt x):∀l:List α,Mk.wt (l.map f)≤K*Mk.wt l
 | []=>zero_le _
 | x :: l=>by
  have h1:=yE f hK h l;have h2:=h x;have e1:Mk.wt (f x :: l.map f)=Mk.wt (l.map f)+(Mk.wt (f x)+1):=by
   rw[cX,cX];simp only[mE,map_cons,foldr_cons,length_cons];omega
  have e2:Mk.wt (x :: l)=Mk.wt l+(Mk.wt x+1):=by
   rw[cX,cX];simp only[mE,map_cons,foldr_cons,length_cons];omega
  rw[map_cons,e1,e2,Nat.mul_add,Nat.mul_add,Nat.mul_one];omega
open Go Go.RowKit
def uq(l:List Bool)(f:Int):Option (List Bool):=if l.getD f.toNat En.ab=true then none else some (l.set f.toNat true)
def yj(pt:List Int)(u:List Bool):Nat→Option (List Bool)
 | 0=>some u
 | k+1=>(yj pt u k).bind λv=>uq v (pt.getD k En.ab)
/-- the process does not come behind one of a number as small -/
def wz(a:bC)(k:Nat):Bool:=decide (0<k)&&decide ((a.ag.getD (k-1) En.ab).ey≤(a.ag.getD k En.ab).ey)
def DO(a:bC)(u:List Bool)(k:Nat):Option (List Bool):=if wz a k=true then none else yj (a.ag.getD k En.ab).bf u (a.ag.getD k En.ab).bf.length
def jW(a:bC):Nat→Option (List Bool)
 | 0=>some (replicate 16 false)
 | k+1=>(jW a k).bind λu=>DO a u k
def jJ(a:bC)(u:List Bool)(f:Nat):Bool:= !(u.getD f En.ab==sY a.Heap.aZ f)
def sf(a:bC):Bool:=match jW a a.ag.length with|some u=>fw (jJ a u) 16|none=>false
def j8(a:bC):Bool:=cN a&&(cy (fe a)&&(sD a.Heap.aZ&&(sf a&&(a.ak.all λp=>fh p.bo))))
theorem vM{a:bC}{k:Nat}(h:jW a k=none):∀{n:Nat},k≤n→jW a n=none:=λ{n} hn=>by
 induction n with
 | zero=>
  obtain rfl:k=0:=by omega
  exact h
 | succ n ih=>
  rcases Nat.lt_or_ge n k with h1|h1
  ·obtain rfl:k=n+1:=by omega
   exact h
  ·rw[jW,ih h1];rfl
theorem zn{pt:List Int}{u:List Bool}{k:Nat}(h:yj pt u k=none):∀{n:Nat},k≤n→yj pt u n=none:=λ{n} hn=>by
 induction n with
 | zero=>
  obtain rfl:k=0:=by omega
  exact h
 | succ n ih=>
  rcases Nat.lt_or_ge n k with h1|h1
  ·obtain rfl:k=n+1:=by omega
   exact h
  ·rw[yj,ih h1];rfl
structure De(a:bC) where
 k:Nat
 le:k≤a.ag.length
 u:List Bool
 hu:jW a k=some u
 ln:u.length=16
structure pY(pt:List Int)(u0:List Bool) where
 k:Nat
 le:k≤pt.length
 v:List Bool
 hv:yj pt u0 k=some v
 ln:v.length=16
theorem pY.mark{pt:List Int}{u0:List Bool}(i:pY pt u0)(hf:i.v.getD (pt.getD i.k En.ab).toNat En.ab=false):yj pt u0 (i.k+1)=some (i.v.set (pt.getD i.k En.ab).toNat true):=by
 rw[yj,i.hv];show uq i.v _=_;rw[uq,if_neg (by rw[hf];simp)]
theorem pY.bad{pt:List Int}{u0:List Bool}(i:pY pt u0)(h:i.k<pt.length)(hf:i.v.getD (pt.getD i.k En.ab).toNat En.ab=true):yj pt u0 pt.length=none:=by
 refine zn (k:=i.k+1) ?_ (by omega);rw[yj,i.hv];show uq i.v _=_;rw[uq,if_pos hf]
theorem eH{a:bC}{k:Nat}{u:List Bool}(h:jW a k=some u):jW a (k+1)=DO a u k:=by rw[jW,h];rfl
theorem Ah{a:bC}{u:List Bool}{k:Nat}(h:wz a k=true):DO a u k=none:=if_pos h
theorem ka{a:bC}{u:List Bool}{k:Nat}(h:wz a k=false):DO a u k=yj (a.ag.getD k En.ab).bf u (a.ag.getD k En.ab).bf.length:=if_neg (by rw[h];simp)
theorem pY.full{pt:List Int}{u0:List Bool}(i:pY pt u0)(h:pt.length≤i.k):yj pt u0 pt.length=some i.v:=by
 have h1:=i.le;rw[show pt.length=i.k by omega];exact i.hv
theorem p9{a:bC}(h:cN a=false):j8 a=false:=by rw[j8,h];rfl
theorem vc{a:bC}(h:cy (fe a)=false):j8 a=false:=by rw[j8,h];simp
theorem tZ{a:bC}(h:sD a.Heap.aZ=false):j8 a=false:=by rw[j8,h];simp
theorem jB{a:bC}{k:Nat}(h:jW a k=none)(hk:k≤a.ag.length):j8 a=false:=by
 rw[j8,sf,vM h hk];simp
theorem sR{a:bC}{u:List Bool}(h:jW a a.ag.length=some u)(hf:fw (jJ a u) 16=false):j8 a=false:=by
 rw[j8,sf,h];simp[hf]
theorem mJ{a:bC}{u:List Bool}(hs:cN a=true)(hU:cy (fe a)=true)(hH:sD a.Heap.aZ=true)(h:jW a a.ag.length=some u)(hf:fw (jJ a u) 16=true):j8 a=a.ak.all λp=>fh p.bo:=by
 rw[j8,sf,h,hs,hU,hH];simp[hf]
theorem wZ{l:List (List Int)}(h:sD l=true):l.length=5:=by
 unfold sD at h;split at h
 ·assumption
 ·cases h
theorem lv{a:bC}(hw:Mk.wt a≤1048576):il (fe a):=by
 have hwu:Mk.wt a.aP+Mk.wt a.ag+Mk.wt a.fx+Mk.wt a.Heap.aZ+Mk.wt a.ao+Mk.wt a.ak+Mk.wt a.ay+Mk.wt a.aN+Mk.wt a.Out≤1048576:=hw;have e:Mk.wt (fe a).ag≤4*Mk.wt a.ag:=by
  show Mk.wt (vl a a.ag.length)≤_;rw[vl,AB,take_length];exact yE (fJ a) (by omega) (yn a) a.ag
 have hl0:=iH a.ag;have hl1:=iH a.ao;have hl2:=dY a.aN;have h0:(fe a).ag.length≤a.ag.length:=wK;have h1:(fe a).ao.length≤a.ao.length:=wG;have h3:om (fe a).ag (fe a).ag.length≤bD Mk.wt En.ab (fe a).ag (fe a).ag.length:=rJ (λx=>by
  have:Mk.wt x=Mk.wt x.dh.b_+Mk.wt x.Mem+Mk.wt x.cH:=rfl;have:=cX x.Mem;omega) _
 have h4:BG (fe a) (fe a).ag.length≤bD Mk.wt En.ab (fe a).ag (fe a).ag.length:=rJ (λx=>by
  have:Mk.wt x=Mk.wt x.dh.b_+Mk.wt x.Mem+Mk.wt x.cH:=rfl;have:=cX x.cH;omega) _
 have hwl:=cX (fe a).ag;rw[dc]at h3 h4;exact⟨by omega,by omega,by omega,by omega,by show a.aN.length≤_;omega⟩
open Go Go.RowKit Go.Proofs Go.Proofs.Tryz
theorem yV(a:bC)(hw:Mk.wt a≤1048576):a_ prog 15 [.g [.v (iv a.Next),.v (iv a.bp),.h aa [],.h (aa+1) [],.h (aa+2) [],.h (aa+3) [],.h (aa+4) [],.h (aa+5) [],.h (aa+6) [],.h (aa+7) [],.h (aa+8) []]] [.rt aa .ro (tr a.aP),.rt (aa+1) .ro (tr a.ag),.rt (aa+2) .ro (tr a.fx),.rt (aa+3) .ro (tr a.Heap.aZ),.rt (aa+4) .ro (tr a.ao),.rt (aa+5) .ro (tr a.ak),.rt (aa+6) .ro (tr a.ay),.rt (aa+7) .ro (tr a.aN),.rt (aa+8) .ro (tr a.Out)] (λy _=>y= .v (.bool (j8 a))):=by
 refine ob func15 ntmps15 ?_;refine AW.len (aa+1) [] rfl (by simp[bT]) rfl (λhl1=>?_);refine AW.len (aa+5) [] rfl (by simp[bT]) rfl (λhl5=>?_);refine go [.R,.B,.N,.a,.Z,.R2,.G] ?_;refine cv call26 rfl rfl (rE a) ?_;refine go [.N,.n,.m] ?_;refine aB.split 12 rfl (λg1=>?_) (λg1=>?_)
 ·have eg1:=g1
  try simp only[ah]at eg1
  refine go [.x,.x,.x,.x] ?_;refine qq (Qt.bj rfl g1) ?_;refine go [.N,.m] ?_;apply aB.cut 4
  ·intro Kg2;refine aB.bq 18 rfl (λg2=>?_) (λg2=>?_)
   ·have eg2:=g2
    try simp only[ah]at eg2
    refine go [.f,.G,.N] ?_;refine aB.step rfl (nF g2) (aE.aC rfl (by decide) call78 rfl rfl (mB a.Heap)) ?_;refine go [.N,.n] ?_;exact bV 22 [19,20,21,22] (bU g2 _ undef) Kg2
   ·refine go [.x,.x,.x,.x] ?_;exact bX 22 [19,20,21,22] (bY g2 undef _) Kg2
  refine qq (Qt.br rfl rfl rfl) ?_;refine go [.Z] ?_;refine AW.cond rfl (λc3=>?_) (λc3=>(by exfalso;first|(cases c3;done)|(simp at c3;done)|(simp only[ah]at c3;omega)))
  try simp only[ah]at c3
  have hsh:cN a=false:=by simpa using g1
  refine go [.R,.a,.Z] ?_;refine aQ 2 ?_;rw[show j8 a=false from p9 hsh];rfl
 have eg1:=g1
 try simp only[ah]at eg1
 refine go [.G] ?_;have hsh:cN a=true:=by simpa using g1
 have hS:=yf hsh;refine go [.N] ?_;refine aB.step rfl (nF g1) (aE.bP rfl (by decide) call27 rfl rfl (pb a (yf hsh) hw) (aj rfl) rfl rfl) ?_;refine go [.N] ?_;refine aB.step rfl (nF g1) (aE.aC rfl (by decide) call77 rfl rfl (tA (fe a) (lv hw))) ?_;refine go [.N,.n] ?_;refine qq (Qt.bd rfl g1) ?_;refine go [.m,.N] ?_;apply aB.cut 4
 ·intro Kg4;refine aB.bq 18 rfl (λg4=>?_) (λg4=>?_)
  ·have eg4:=g4
   try simp only[ah]at eg4
   refine go [.f,.G] ?_;refine aB.step rfl (nF g4) (aE.aC rfl (by decide) call78 rfl rfl (mB a.Heap)) ?_;refine go [.N,.n] ?_;exact bV 22 [19,20,21,22] (bU g4 _ undef) Kg4
  ·refine go [.x,.x,.x,.x] ?_;exact bX 22 [19,20,21,22] (bY g4 undef _) Kg4
 refine qq (Qt.br rfl rfl rfl) ?_;refine go [.Z] ?_;refine cd (λc5=>?_) λc5=>?_
 ·have k5:=c5
  try simp only[ah]at c5
  have hbad:j8 a=false:=by
   have hk:=k5;simp only[Bool.or_eq_true,Bool.not_eq_true']at hk;rcases hk with hk|hk
   ·exact vc hk
   ·exact tZ hk
  refine go [.R,.a,.Z] ?_;refine aQ 2 ?_;rw[hbad];rfl
 have k5:=c5
 try simp only[ah]at c5
 have hUH:cy (fe a)=true∧sD a.Heap.aZ=true:=by
  have hk:=k5;simpa using hk
 obtain⟨hU,hH⟩:=hUH;refine go [.J,.R] ?_;refine sp (aE.makeSlice rfl (by decide) (by decide) rfl rfl (by omega) (by omega) (by omega)) ?_;refine go [.N,.a,.Z,.R2,.a,.Z] ?_;refine AW.block ?_;refine AW.aL (λi:De a=>[.sl 4 (.v (iv i.k)),.sl 3 (.h 24 []),.rt 1 .box (T.s 11 1 λk c=>([(T.v (iv a.Next),none),(T.v (iv a.bp),none),(T.j,none),(T.j,none),(T.j,none),(T.j,none),(T.j,none),(T.j,none),(T.j,none),(T.j,none),(T.j,none)].getD (k*11+c) (T.j,none)).fst),.al 1 2 (.h aa []),.al 1 3 (.h (aa+1) []),.al 1 4 (.h (aa+2) []),.al 1 5 (.h (aa+3) []),.al 1 6 (.h (aa+4) []),.al 1 7 (.h (aa+5) []),.al 1 8 (.h (aa+6) []),.al 1 9 (.h (aa+7) []),.al 1 10 (.h (aa+8) []),.rt aa .ro (tr a.aP),.rt (aa+1) .ro (tr a.ag),.rt (aa+2) .ro (tr a.fx),.rt (aa+3) .ro (tr a.Heap.aZ),.rt (aa+4) .ro (tr a.ao),.rt (aa+5) .ro (tr a.ak),.rt (aa+6) .ro (tr a.ay),.rt (aa+7) .ro (tr a.aN),.rt (aa+8) .ro (tr a.Out),.sl 1 (.p 1 [] 11 0 0),.rt 24 .row (tr i.u)]) (λi=>a.ag.length-i.k) ⟨0,zero_le _,replicate 16 false,rfl,by simp⟩ (ar.bb ⟨rfl,rfl,Rf rfl,⟨rfl,rfl⟩,⟨rfl,rfl⟩,⟨rfl,rfl⟩,⟨rfl,rfl⟩,⟨rfl,rfl⟩,⟨rfl,rfl⟩,⟨rfl,rfl⟩,⟨rfl,rfl⟩,⟨rfl,rfl⟩,Rf rfl,Rf rfl,Rf rfl,Rf rfl,Rf rfl,Rf rfl,Rf rfl,Rf rfl,Rf rfl,rfl,⟨_,rfl,nP 16⟩,trivial⟩ rfl rfl) ?_;intro i;have hle:=i.le;have hln:=i.ln;refine go [.R2,.m,.N,.f,.l,.h,.N,.b,.Z] ?_;refine cd (λc6=>?_) λc6=>?_
 ·try simp only[ah]at c6
  refine jd (AW.seq (AW.block (AW.seq (AW.seq ?_))));refine go [.D [0,1,2,3,4,5,6,7,8,9,10,11,12,13,14,15,16,17],.t 0,.m,.t 1,.b,.N,.t 2,.m] ?_;refine aO.split 34 rfl (λg7=>?_) (λg7=>?_)
  ·refine go [.t 3,.f,.t 4,.l,.N,.t 5,.m,.t 6,.b,.t 7,.i,.N,.t 8,.f,.t 9,.l,.t 10,.f,.N,.t 11,.l,.t 12,.m,.t 13,.i,.N,.t 14,.f,.t 15,.l,.t 16,.b,.N] ?_;refine tk 17 rfl (Qt.bj rfl g7) ?_;refine go [.Z] ?_;refine cd (λc8=>?_) λc8=>?_
   ·have k8:=c8
    try simp only[ah]at c8
    have hup:wz a i.k=true:=by
     have hk:=k8;have e1:0<i.k→((i.k:Int)-1).toNat=i.k-1:=λ_=>by omega
     try rw[e1 (by omega)]at hk
     simp only[wz]
     grind
    refine go [.R,.a,.Z] ?_;refine aQ 2 ?_;rw[show j8 a=false from jB (k:=i.k+1) ((eH i.hu).trans (Ah hup)) (by omega)];rfl
   have k8:=c8
   try simp only[ah]at c8
   have hup:wz a i.k=false:=by
    have hk:=k8;have e1:0<i.k→((i.k:Int)-1).toNat=i.k-1:=λ_=>by omega
    try rw[e1 (by omega)]at hk
    simp only[wz]
    grind
   refine go [.J,.R,.a,.Z] ?_;refine AW.block ?_;refine AW.aL (λj:pY (a.ag.getD i.k En.ab).bf i.u=>[.sl 5 (.v (iv j.k)),.sl 4 (.v (iv i.k)),.sl 3 (.h 24 []),.rt 1 .box (T.s 11 1 λk c=>([(T.v (iv a.Next),none),(T.v (iv a.bp),none),(T.j,none),(T.j,none),(T.j,none),(T.j,none),(T.j,none),(T.j,none),(T.j,none),(T.j,none),(T.j,none)].getD (k*11+c) (T.j,none)).fst),.al 1 2 (.h aa []),.al 1 3 (.h (aa+1) []),.al 1 4 (.h (aa+2) []),.al 1 5 (.h (aa+3) []),.al 1 6 (.h (aa+4) []),.al 1 7 (.h (aa+5) []),.al 1 8 (.h (aa+6) []),.al 1 9 (.h (aa+7) []),.al 1 10 (.h (aa+8) []),.rt aa .ro (tr a.aP),.rt (aa+1) .ro (tr a.ag),.rt (aa+2) .ro (tr a.fx),.rt (aa+3) .ro (tr a.Heap.aZ),.rt (aa+4) .ro (tr a.ao),.rt (aa+5) .ro (tr a.ak),.rt (aa+6) .ro (tr a.ay),.rt (aa+7) .ro (tr a.aN),.rt (aa+8) .ro (tr a.Out),.sl 1 (.p 1 [] 11 0 0),.rt 24 .row (tr j.v)]) (λj=>(a.ag.getD i.k En.ab).bf.length-j.k) ⟨0,zero_le _,i.u,rfl,i.ln⟩ (ws) ?_;intro j;have hlej:=j.le;have hjn:=j.ln;refine AW.len (aa+1) [(10,i.k,6)] rfl (by refine⟨rfl,?_,by decide,trivial⟩;show i.k<a.ag.length;omega) rfl (λhlp=>?_);refine go [.R2,.m,.N,.f,.l,.m,.N,.i,.f,.l,.N,.h,.b,.Z] ?_;refine cd (λc9=>?_) λc9=>?_
   ·try simp only[ah]at c9
    have hfr:=hS.fr i.k (by omega) j.k (by omega);refine jd (AW.seq (AW.block (sr ?_)));refine go [.f,.N,.l,.m,.i,.N,.f,.l,.m,.N,.i,.l,.a,.Z,.R2,.m,.N,.m,.i,.l,.Z] ?_;refine cd (λc10=>?_) λc10=>?_
    ·have k10:=c10
     try simp only[ah]at c10
     have hun:j.v.getD ((a.ag.getD i.k En.ab).bf.getD j.k En.ab).toNat En.ab=true:=by first|exact c10|simpa using k10
     refine go [.R,.a,.Z] ?_;refine aQ 2 ?_;rw[show j8 a=false from jB (k:=i.k+1) ((eH i.hu).trans ((ka hup).trans (j.bad (by omega) hun))) (by omega)];rfl
    have k10:=c10
    try simp only[ah]at c10
    have hun:j.v.getD ((a.ag.getD i.k En.ab).bf.getD j.k En.ab).toNat En.ab=false:=by first|exact c10|simpa using k10
    refine go [.J,.R1,.m,.N,.m,.i,.s,.Z,.R1,.m,.N,.b,.a,.Z] ?_;refine⟨⟨j.k+1,by omega,j.v.set ((a.ag.getD i.k En.ab).bf.getD j.k En.ab).toNat true,j.mark hun,by rw[length_set];exact j.ln⟩,ar.bb ⟨ew,rfl,rfl,Rf rfl,⟨rfl,rfl⟩,⟨rfl,rfl⟩,⟨rfl,rfl⟩,⟨rfl,rfl⟩,⟨rfl,rfl⟩,⟨rfl,rfl⟩,⟨rfl,rfl⟩,⟨rfl,rfl⟩,⟨rfl,rfl⟩,Rf rfl,Rf rfl,Rf rfl,Rf rfl,Rf rfl,Rf rfl,Rf rfl,Rf rfl,Rf rfl,rfl,⟨_,rfl,(bG (λk c hk=>by simp only[ai,hk,false_and,if_false];try rfl) (λc hc=>match c,hc with|0,_=>(by simp only[ai,eq_self,and_self,if_true];exact aw)|c+1,hc=>absurd hc (by simp only[En.n];omega)))⟩,trivial⟩ rfl rfl,?_⟩;show(a.ag.getD i.k En.ab).bf.length-(j.k+1)<(a.ag.getD i.k En.ab).bf.length-j.k;omega
   try simp only[ah]at c9
   refine AW.exit ?_;dsimp only[aD,au,reduceIte];refine go [.R1,.m,.N,.b,.a,.Z] ?_;refine⟨⟨i.k+1,by omega,j.v,(eH i.hu).trans ((ka hup).trans (j.full (by omega))),j.ln⟩,ws,?_⟩;show a.ag.length-(i.k+1)<a.ag.length-i.k;omega
  refine go [.t 3,.x,.N,.t 4,.x,.t 5,.x,.t 6,.x,.N,.t 7,.x,.t 8,.x,.t 9,.x,.N,.t 10,.x,.t 11,.x,.t 12,.x,.N,.t 13,.x,.t 14,.x,.t 15,.x,.N,.t 16,.x] ?_;refine tk 17 rfl (Qt.bd rfl g7) ?_;refine go [.Z] ?_;refine AW.cond rfl (λc11=>(by exfalso;first|(cases c11;done)|(simp at c11;done)|(simp only[ah]at c11;omega))) (λc11=>?_);have k11:=c11
  try simp only[ah]at c11
  have hup:wz a i.k=false:=by
   have hk:=k11;have e1:0<i.k→((i.k:Int)-1).toNat=i.k-1:=λ_=>by omega
   try rw[e1 (by omega)]at hk
   simp only[wz]
   grind
  refine go [.J,.R,.a,.Z] ?_;refine AW.block ?_;refine AW.aL (λj:pY (a.ag.getD i.k En.ab).bf i.u=>[.sl 5 (.v (iv j.k)),.sl 4 (.v (iv i.k)),.sl 3 (.h 24 []),.rt 1 .box (T.s 11 1 λk c=>([(T.v (iv a.Next),none),(T.v (iv a.bp),none),(T.j,none),(T.j,none),(T.j,none),(T.j,none),(T.j,none),(T.j,none),(T.j,none),(T.j,none),(T.j,none)].getD (k*11+c) (T.j,none)).fst),.al 1 2 (.h aa []),.al 1 3 (.h (aa+1) []),.al 1 4 (.h (aa+2) []),.al 1 5 (.h (aa+3) []),.al 1 6 (.h (aa+4) []),.al 1 7 (.h (aa+5) []),.al 1 8 (.h (aa+6) []),.al 1 9 (.h (aa+7) []),.al 1 10 (.h (aa+8) []),.rt aa .ro (tr a.aP),.rt (aa+1) .ro (tr a.ag),.rt (aa+2) .ro (tr a.fx),.rt (aa+3) .ro (tr a.Heap.aZ),.rt (aa+4) .ro (tr a.ao),.rt (aa+5) .ro (tr a.ak),.rt (aa+6) .ro (tr a.ay),.rt (aa+7) .ro (tr a.aN),.rt (aa+8) .ro (tr a.Out),.sl 1 (.p 1 [] 11 0 0),.rt 24 .row (tr j.v)]) (λj=>(a.ag.getD i.k En.ab).bf.length-j.k) ⟨0,zero_le _,i.u,rfl,i.ln⟩ (ws) ?_;intro j;have hlej:=j.le;have hjn:=j.ln;refine AW.len (aa+1) [(10,i.k,6)] rfl (by refine⟨rfl,?_,by decide,trivial⟩;show i.k<a.ag.length;omega) rfl (λhlp=>?_);refine go [.R2,.m,.N,.f,.l,.m,.N,.i,.f,.l,.N,.h,.b,.Z] ?_;refine cd (λc12=>?_) λc12=>?_
  ·try simp only[ah]at c12
   have hfr:=hS.fr i.k (by omega) j.k (by omega);refine jd (AW.seq (AW.block (sr ?_)));refine go [.f,.N,.l,.m,.i,.N,.f,.l,.m,.N,.i,.l,.a,.Z,.R2,.m,.N,.m,.i,.l,.Z] ?_;refine cd (λc13=>?_) λc13=>?_
   ·have k13:=c13
    try simp only[ah]at c13
    have hun:j.v.getD ((a.ag.getD i.k En.ab).bf.getD j.k En.ab).toNat En.ab=true:=by first|exact c13|simpa using k13
    refine go [.R,.a,.Z] ?_;refine aQ 2 ?_;rw[show j8 a=false from jB (k:=i.k+1) ((eH i.hu).trans ((ka hup).trans (j.bad (by omega) hun))) (by omega)];rfl
   have k13:=c13
   try simp only[ah]at c13
   have hun:j.v.getD ((a.ag.getD i.k En.ab).bf.getD j.k En.ab).toNat En.ab=false:=by first|exact c13|simpa using k13
   refine go [.J,.R1,.m,.N,.m,.i,.s,.Z,.R1,.m,.N,.b,.a,.Z] ?_;refine⟨⟨j.k+1,by omega,j.v.set ((a.ag.getD i.k En.ab).bf.getD j.k En.ab).toNat true,j.mark hun,by rw[length_set];exact j.ln⟩,ar.bb ⟨ew,rfl,rfl,Rf rfl,⟨rfl,rfl⟩,⟨rfl,rfl⟩,⟨rfl,rfl⟩,⟨rfl,rfl⟩,⟨rfl,rfl⟩,⟨rfl,rfl⟩,⟨rfl,rfl⟩,⟨rfl,rfl⟩,⟨rfl,rfl⟩,Rf rfl,Rf rfl,Rf rfl,Rf rfl,Rf rfl,Rf rfl,Rf rfl,Rf rfl,Rf rfl,rfl,⟨_,rfl,(bG (λk c hk=>by simp only[ai,hk,false_and,if_false];try rfl) (λc hc=>match c,hc with|0,_=>(by simp only[ai,eq_self,and_self,if_true];exact aw)|c+1,hc=>absurd hc (by simp only[En.n];omega)))⟩,trivial⟩ rfl rfl,?_⟩;show(a.ag.getD i.k En.ab).bf.length-(j.k+1)<(a.ag.getD i.k En.ab).bf.length-j.k;omega
  try simp only[ah]at c12
  refine AW.exit ?_;dsimp only[aD,au,reduceIte];refine go [.R1,.m,.N,.b,.a,.Z] ?_;refine⟨⟨i.k+1,by omega,j.v,(eH i.hu).trans ((ka hup).trans (j.full (by omega))),j.ln⟩,ws,?_⟩;show a.ag.length-(i.k+1)<a.ag.length-i.k;omega
 try simp only[ah]at c6
 refine AW.exit ?_;dsimp only[aD,au,reduceIte];refine go [.R2,.a,.Z] ?_;refine AW.block ?_;refine AW.aL (λm:q_ (jJ a i.u) 16=>[.sl 7 (.v (iv m.k)),.sl 3 (.h 24 []),.rt 1 .box (T.s 11 1 λk c=>([(T.v (iv a.Next),none),(T.v (iv a.bp),none),(T.j,none),(T.j,none),(T.j,none),(T.j,none),(T.j,none),(T.j,none),(T.j,none),(T.j,none),(T.j,none)].getD (k*11+c) (T.j,none)).fst),.al 1 2 (.h aa []),.al 1 3 (.h (aa+1) []),.al 1 4 (.h (aa+2) []),.al 1 5 (.h (aa+3) []),.al 1 6 (.h (aa+4) []),.al 1 7 (.h (aa+5) []),.al 1 8 (.h (aa+6) []),.al 1 9 (.h (aa+7) []),.al 1 10 (.h (aa+8) []),.rt aa .ro (tr a.aP),.rt (aa+1) .ro (tr a.ag),.rt (aa+2) .ro (tr a.fx),.rt (aa+3) .ro (tr a.Heap.aZ),.rt (aa+4) .ro (tr a.ao),.rt (aa+5) .ro (tr a.ak),.rt (aa+6) .ro (tr a.ay),.rt (aa+7) .ro (tr a.aN),.rt (aa+8) .ro (tr a.Out),.sl 1 (.p 1 [] 11 0 0),.rt 24 .row (tr i.u)]) (λm=>16-m.k) ⟨0,by omega,λx h=>absurd h (by omega)⟩ (ws) ?_;intro m;have hlem:=m.le;refine go [.R2,.m,.N,.b,.Z] ?_;refine cd (λc14=>?_) λc14=>?_
 ·try simp only[ah]at c14
  refine jd (AW.seq (AW.block (AW.seq ?_)));refine go [.D [0,1,2,3,4,5,6,8],.t 0,.m,.t 1,.m,.N,.t 2,.i,.t 3,.l,.t 4,.f,.N,.t 5,.G,.t 6,.m] ?_;refine a1 7 [0,1,2,3] [6,5,4] rfl rfl (aE.aC rfl (by decide) call79 rfl rfl (xM a.Heap (m.k:Nat) (wZ hH) (by rw[jw];omega))) ?_;refine go [.N,.g,.m,.N,.g,.m,.N,.g,.i,.N,.g,.l,.N] ?_;refine tk 8 rfl (Qt.Dp rfl rfl underlying4) ?_;refine go [.Z] ?_;refine cd (λc15=>?_) λc15=>?_
  ·have k15:=c15
   try simp only[ah]at c15
   have hq:jJ a i.u m.k=false:=by
    have hk:=k15;simp only[jJ]
    first|exact(congrArg (! ·) hk).trans rfl|simpa using hk
   refine go [.R,.a,.Z] ?_;refine aQ 2 ?_;rw[show j8 a=false from sR (by rw[show a.ag.length=i.k by omega];exact i.hu) (m.stop (by omega) hq)];rfl
  have k15:=c15
  try simp only[ah]at c15
  have hq:jJ a i.u m.k=true:=by
   have hk:=k15;simp only[jJ]
   first|exact(congrArg (! ·) hk).trans rfl|simpa using hk
  refine go [.J,.R1,.m,.N,.b,.a,.Z] ?_;refine⟨⟨m.k+1,by omega,m.next hq⟩,ws,?_⟩;show 16-(m.k+1)<16-m.k;omega
 try simp only[ah]at c14
 refine AW.exit ?_;dsimp only[aD,au,reduceIte];refine go [.R2,.a,.Z] ?_;refine AW.block ?_;refine AW.aL (λq:ft (λp:dd=>fh p.bo) a.ak=>[.sl 8 (.v (iv q.k)),.sl 3 (.h 24 []),.rt 1 .box (T.s 11 1 λk c=>([(T.v (iv a.Next),none),(T.v (iv a.bp),none),(T.j,none),(T.j,none),(T.j,none),(T.j,none),(T.j,none),(T.j,none),(T.j,none),(T.j,none),(T.j,none)].getD (k*11+c) (T.j,none)).fst),.al 1 2 (.h aa []),.al 1 3 (.h (aa+1) []),.al 1 4 (.h (aa+2) []),.al 1 5 (.h (aa+3) []),.al 1 6 (.h (aa+4) []),.al 1 7 (.h (aa+5) []),.al 1 8 (.h (aa+6) []),.al 1 9 (.h (aa+7) []),.al 1 10 (.h (aa+8) []),.rt aa .ro (tr a.aP),.rt (aa+1) .ro (tr a.ag),.rt (aa+2) .ro (tr a.fx),.rt (aa+3) .ro (tr a.Heap.aZ),.rt (aa+4) .ro (tr a.ao),.rt (aa+5) .ro (tr a.ak),.rt (aa+6) .ro (tr a.ay),.rt (aa+7) .ro (tr a.aN),.rt (aa+8) .ro (tr a.Out),.sl 1 (.p 1 [] 11 0 0),.rt 24 .row (tr i.u)]) (λq=>a.ak.length-q.k) ⟨0,zero_le _,rfl⟩ (ws) ?_;intro q;have hleq:=q.le;refine go [.R2,.m,.N,.f,.l,.h,.N,.b,.Z] ?_;refine cd (λc16=>?_) λc16=>?_
 ·try simp only[ah]at c16
  refine jd (AW.seq (AW.block (sr ?_)));refine go [.f,.l,.N,.m,.i,.G,.N] ?_;refine cv call80 rfl rfl (pI _) ?_;refine go [.N,.n,.Z] ?_;refine cd (λc17=>?_) λc17=>?_
  ·have k17:=c17
   try simp only[ah]at c17
   refine go [.R,.a,.Z] ?_;refine aQ 2 ?_;rw[show j8 a=false from(mJ hsh hU hH (by rw[show a.ag.length=i.k by omega];exact i.hu) (m.full (by omega))).trans (q.stop En.ab (by omega) (by simpa using k17))];rfl
  have k17:=c17
  try simp only[ah]at c17
  refine go [.J,.R1,.m,.N,.b,.a,.Z] ?_;refine⟨⟨q.k+1,by omega,q.next En.ab (by omega) (by simpa using k17)⟩,ws,?_⟩;show a.ak.length-(q.k+1)<a.ak.length-q.k;omega
 try simp only[ah]at c16
 refine AW.exit ?_;dsimp only[aD,au,reduceIte];refine go [.R,.a,.Z] ?_;refine aQ 2 ?_;rw[show j8 a=true from(mJ hsh hU hH (by rw[show a.ag.length=i.k by omega];exact i.hu) (m.full (by omega))).trans (q.full (by omega))];rfl
end Go.Proofs.YtekcnnngjoonbaaGreat.VM

