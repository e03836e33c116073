/- Contracts. No conditions. -/
import Derived.Test.YtekcnnngjoonbaaGreatWq
set_option linter.all false
set_option maxHeartbeats 8000000
set_option maxRecDepth 10000
namespace Go.Proofs.YtekcnnngjoonbaaGreat.VM
open List Nat
open Go Go.RowKit Go.Proofs
structure aB where
 f0:Int
 f1:Int
 f2:Int
 f3:Int
 f4:Int
 AZ:Option Addr
 AU:Nat
 Ba:Nat
 Bd:Option Addr
 AQ:Nat
 As:Nat
 AH:Option Addr
 AG:Nat
 A5:Nat
 f8:Int
 f9:Int
instance:En aB:=⟨10,by omega,λa=>[.v (iv a.f0), .v (iv a.f1), .v (iv a.f2), .v (iv a.f3), .v (iv a.f4), .v (.slice a.AZ a.AU a.Ba), .v (.slice a.Bd a.AQ a.As), .v (.slice a.AH a.AG a.A5), .v (iv a.f8), .v (iv a.f9)],λ_=>rfl,λ_=>True,⟨0,0,0,0,0,none,0,0,none,0,0,none,0,0,0,0⟩⟩
@[go_sem] theorem A_(a:aB):En.cs a=[.v (iv a.f0), .v (iv a.f1), .v (iv a.f2), .v (iv a.f3), .v (iv a.f4), .v (.slice a.AZ a.AU a.Ba), .v (.slice a.Bd a.AQ a.As), .v (.slice a.AH a.AG a.A5), .v (iv a.f8), .v (iv a.f9)]:=rfl
theorem iU(a b:aB):bf Tryz.prog 45 [.g [.v (iv a.f0), .v (iv a.f1), .v (iv a.f2), .v (iv a.f3), .v (iv a.f4), .c, .c, .c, .v (iv a.f8), .v (iv a.f9)], .g [.v (iv b.f0), .v (iv b.f1), .v (iv b.f2), .v (iv b.f3), .v (iv b.f4), .c, .c, .c, .v (iv b.f8), .v (iv b.f9)]] [] (λy _=>y= .v (iv (mu (aB.f0 a) (aB.f0 b)))):=by
 refine ob Tryz.func45 Tryz.ntmps45 ?_;refine sr ?_;refine bx ?_;refine nm ?_;refine bx ?_;refine nm ?_;refine qn ?_;refine AW.seq (AW.block (sr ?_));refine qq (fA lu) ?_;refine ql aX ?_;refine nm ?_;refine qq (fA lu) ?_;refine ql aX ?_;refine qb ?_;refine nm ?_;refine qn ?_;refine cd (λc1=>?_) λc1=>?_
 ·try simp only[ai]at c1
  refine sr ?_;refine qr 4 ?_;rw[show mu a.f0 b.f0= -1 from if_pos (by omega)];rfl
 try simp only[ai]at c1
 refine sr ?_;refine qq (fA lu) ?_;refine nm ?_;refine ql aX ?_;refine qq (fA lu) ?_;refine ql aX ?_;refine nm ?_;refine qb ?_;refine qn ?_;refine cd (λc2=>?_) λc2=>?_
 ·try simp only[ai]at c2
  refine sr ?_;refine qr 4 ?_;rw[show mu a.f0 b.f0=1 from(if_neg (by omega)).trans (if_pos (by omega))];rfl
 try simp only[ai]at c2
 refine jd (sr ?_);refine qr 4 ?_;rw[show mu a.f0 b.f0=0 from(if_neg (by omega)).trans (if_neg (by omega))];rfl
open Go Go.RowKit Go.Proofs
theorem ri(l:List aB)(p:aB)(hs:l.length≤2000000):bf Tryz.prog 96 [.h aa [], .g [.v (iv p.f0), .v (iv p.f1), .v (iv p.f2), .v (iv p.f3), .v (iv p.f4), .v (.slice p.AZ p.AU p.Ba), .v (.slice p.Bd p.AQ p.As), .v (.slice p.AH p.AG p.A5), .v (iv p.f8), .v (iv p.f9)]] [.rt aa .ro (tr l)] (jY (.h 0 []) [(0, .row,tr (bO aB.f0 l p))]):=by
 refine ob Tryz.func96 Tryz.ntmps96 ?_;refine sr ?_;refine sp (aK.yp (replicate 10 .j) rfl (by decide) (by decide) rfl rfl (by rfl) rfl rfl) ?_;refine nm ?_;refine fi ?_;refine sp sS ?_;refine nm ?_;refine fi ?_;refine qn ?_;refine bP ?_;refine qn ?_;refine AW.block ?_;refine AW.oW 8 37 rfl (by decide) (by decide) ?_;refine AW.bw (λi:ei l.length=>[.sl 7 (.v (iv i.k)), .sl 6 (.v (.bool (dy aB.f0 l p i.k))), .sl 5 (.h 37 []), .sl 3 (.p 3 [] 10 0 0), .sl 0 (.h aa []), .rt 3 .box (T.s 10 1 λk c=>([(T.v (iv p.f0),none),(T.v (iv p.f1),none),(T.v (iv p.f2),none),(T.v (iv p.f3),none),(T.v (iv p.f4),none),(T.v (.slice p.AZ p.AU p.Ba),none),(T.v (.slice p.Bd p.AQ p.As),none),(T.v (.slice p.AH p.AG p.A5),none),(T.v (iv p.f8),none),(T.v (iv p.f9),none)].getD (k*10+c) (T.j,none)).fst), .rt aa .ro (tr l), .rt 37 .row (tr (cC aB.f0 l p i.k))]) (λi=>l.length-i.k) ⟨0,zero_le _⟩ (ar.aZ ⟨rfl,rfl,rfl,rfl,rfl,Rf rfl,Rf rfl,⟨_,rfl,bS⟩,trivial⟩ rfl rfl) ?_;intro i;have hle:=i.le;have hil:=mc (key:=aB.f0) (l:=l) (p:=p) (k:=i.k);refine bP ?_;refine mn ?_;refine qm ?_;refine qh fy ?_;refine qb ?_;refine nc (λc1=>?_) λc1=>?_
 ·try simp only[ai]at c1
  refine jd (AW.seq (AW.block (AW.seq (AW.seq ?_))));refine AW.draw [0,1,2,3,4,5,6,7,8,9,10,11] rfl (by decide +kernel) ?_;refine tk 0 rfl Qt.move ?_;refine na ?_;refine tk 1 rfl (Qt.iy rfl) ?_;refine tk 2 rfl Qt.move ?_;refine aQ.split 17 rfl (λg2=>?_) (λg2=>?_)
  ·refine tg 3 rfl g2 Qt.move ?_;refine na ?_;refine tg 4 rfl g2 Qt.move ?_;refine tg 5 rfl g2 (ix fy dh) ?_;refine tg 6 rfl g2 (fA lu) ?_;refine na ?_;refine tg 7 rfl g2 (Qt.ag rfl rfl rfl aX) ?_;refine tg 8 rfl g2 (fA lu) ?_;refine tg 9 rfl g2 (Qt.ag rfl rfl rfl aX) ?_;refine na ?_;refine tg 10 rfl g2 (Qt.binOp rfl rfl rfl) ?_;refine tk 11 rfl (Qt.bl rfl g2) ?_;refine nz ?_;refine cd (λc3=>?_) λc3=>?_
   ·try simp only[ai]at c3
    have hq:dy aB.f0 l p i.k=false:=by simpa using ‹(!dy aB.f0 l p i.k)=true›
    have hc:aB.f0 p<aB.f0 (l.getD i.k En.ab):=by have hk:=c3;omega
    refine sr ?_;refine mn ?_;refine qG g_ dh ?_;refine sp (aK.bR (replicate 10 .j) rfl (by decide) (by decide) rfl (by decide) rfl (by rfl) rfl rfl (ak rfl)) ?_;refine nm ?_;refine az.bQ 29 (tr [p]) rfl (cg (α:=aB) (λc hc=>match c,hc with|0,_=>au|1,_=>au|2,_=>au|3,_=>au|4,_=>au|5,_=>au|6,_=>au|7,_=>au|8,_=>au|9,_=>au|c+10,hc=>absurd hc (by simp only[En.n];omega))) ?_;refine nm ?_;refine sp (aK.bu rfl (by decide) (by decide) rfl rfl rfl (by simp only[length_cons,length_nil,length_append];omega)) ?_;refine nm ?_;refine az.bQ 30 (tr (cC aB.f0 l p i.k++[p])) rfl (ct (l:=cC aB.f0 l p i.k) (l':=[p]) rfl (λ_ _ _ _=>rfl) (λ_ _ _ _=>rfl)) ?_;refine nm ?_;refine qn ?_;refine AW.region ?_;refine qa ?_;refine az.bc (ar.slot (d:=6) (v':= .bool (dy aB.f0 l p (i.k+1))) rfl (congrArg Value.bool (by rw[de (by omega),hq,decide_eq_true hc];rfl))) ?_;refine nl ?_;refine AW.region ?_;refine mn ?_;refine qm ?_;refine qm ?_;refine qq (ix fy dh) ?_;refine nm ?_;refine qG g_ dh ?_;refine sp (aK.bR (replicate 10 .j) rfl (by decide) (by decide) rfl (by decide) rfl (by rfl) rfl rfl (ak rfl)) ?_;refine nm ?_;refine az.bQ 36 (tr [(l.getD i.k En.ab)]) rfl (cg (α:=aB) (λc hc=>match c,hc with|0,_=>au|1,_=>au|2,_=>au|3,_=>au|4,_=>au|5,_=>au|6,_=>au|7,_=>au|8,_=>au|9,_=>au|c+10,hc=>absurd hc (by simp only[En.n];omega))) ?_;refine nm ?_;refine sp (aK.bu rfl (by decide) (by decide) rfl rfl rfl (by simp only[length_cons,length_nil,length_append];omega)) ?_;refine nm ?_;refine az.bQ 37 (tr (cC aB.f0 l p (i.k+1))) rfl (by rw[lR (by omega) hq hc];exact ct (l:=cC aB.f0 l p i.k++[p]) (l':=[(l.getD i.k En.ab)]) rfl (λ_ _ _ _=>rfl) (λ_ _ _ _=>rfl)) ?_;refine nm ?_;refine qn ?_;refine AW.region ?_;refine qm ?_;refine ba ?_;refine nm ?_;refine qn ?_;refine⟨⟨i.k+1,by omega⟩,ar.aZ ⟨fe,rfl,rfl,rfl,rfl,Rf rfl,Rf rfl,Rf rfl,trivial⟩ rfl rfl,?_⟩;show l.length-(i.k+1)<l.length-i.k;omega
   try simp only[ai]at c3
   have hq:dy aB.f0 l p i.k=false:=by simpa using ‹(!dy aB.f0 l p i.k)=true›
   have hc:¬aB.f0 p<aB.f0 (l.getD i.k En.ab):=by have hk:=c3;omega
   refine jd (AW.region ?_);refine qm ?_;refine mn ?_;refine qm ?_;refine qq (ix fy dh) ?_;refine qG g_ dh ?_;refine nm ?_;refine sp (aK.bR (replicate 10 .j) rfl (by decide) (by decide) rfl (by decide) rfl (by rfl) rfl rfl (ak rfl)) ?_;refine nm ?_;refine az.bQ 36 (tr [(l.getD i.k En.ab)]) rfl (cg (α:=aB) (λc hc=>match c,hc with|0,_=>au|1,_=>au|2,_=>au|3,_=>au|4,_=>au|5,_=>au|6,_=>au|7,_=>au|8,_=>au|9,_=>au|c+10,hc=>absurd hc (by simp only[En.n];omega))) ?_;refine nm ?_;refine sp (aK.bu rfl (by decide) (by decide) rfl rfl rfl (by simp only[length_cons,length_nil,length_append];omega)) ?_;refine nm ?_;refine az.bQ 37 (tr (cC aB.f0 l p (i.k+1))) rfl (by rw[lZ (by omega) hq hc];exact ct (l:=cC aB.f0 l p i.k) (l':=[(l.getD i.k En.ab)]) rfl (λ_ _ _ _=>rfl) (λ_ _ _ _=>rfl)) ?_;refine nm ?_;refine qa ?_;refine az.bc (ar.slot (d:=6) (v':= .bool (dy aB.f0 l p (i.k+1))) rfl (congrArg Value.bool (by rw[de (by omega),hq,decide_eq_false hc];rfl))) ?_;refine nl ?_;refine AW.region ?_;refine mn ?_;refine ba ?_;refine qn ?_;refine⟨⟨i.k+1,by omega⟩,ar.aZ ⟨fe,rfl,rfl,rfl,rfl,Rf rfl,Rf rfl,Rf rfl,trivial⟩ rfl rfl,?_⟩;show l.length-(i.k+1)<l.length-i.k;omega
  refine tf 3 g2 ?_;refine na ?_;refine tf 4 g2 ?_;refine tf 5 g2 ?_;refine tf 6 g2 ?_;refine na ?_;refine tf 7 g2 ?_;refine tf 8 g2 ?_;refine tf 9 g2 ?_;refine na ?_;refine tf 10 g2 ?_;refine tk 11 rfl (Qt.bd rfl g2) ?_;refine nz ?_;refine AW.cond rfl (λc4=>(by cases c4)) (λc4=>?_)
  try simp only[ai]at c4
  have hq:dy aB.f0 l p i.k=true:=by simpa using ‹(!dy aB.f0 l p i.k)=false›
  refine jd (AW.region ?_);refine mn ?_;refine qm ?_;refine qm ?_;refine qq (ix fy dh) ?_;refine nm ?_;refine qG g_ dh ?_;refine sp (aK.bR (replicate 10 .j) rfl (by decide) (by decide) rfl (by decide) rfl (by rfl) rfl rfl (ak rfl)) ?_;refine nm ?_;refine az.bQ 36 (tr [(l.getD i.k En.ab)]) rfl (cg (α:=aB) (λc hc=>match c,hc with|0,_=>au|1,_=>au|2,_=>au|3,_=>au|4,_=>au|5,_=>au|6,_=>au|7,_=>au|8,_=>au|9,_=>au|c+10,hc=>absurd hc (by simp only[En.n];omega))) ?_;refine nm ?_;refine sp (aK.bu rfl (by decide) (by decide) rfl rfl rfl (by simp only[length_cons,length_nil,length_append];omega)) ?_;refine nm ?_;refine az.bQ 37 (tr (cC aB.f0 l p (i.k+1))) rfl (by rw[ma (by omega) hq];exact ct (l:=cC aB.f0 l p i.k) (l':=[(l.getD i.k En.ab)]) rfl (λ_ _ _ _=>rfl) (λ_ _ _ _=>rfl)) ?_;refine nm ?_;refine qa ?_;refine az.bc (ar.slot (d:=6) (v':= .bool (dy aB.f0 l p (i.k+1))) rfl (congrArg Value.bool (by rw[de (by omega),hq];rfl))) ?_;refine nl ?_;refine AW.region ?_;refine mn ?_;refine ba ?_;refine qn ?_;refine⟨⟨i.k+1,by omega⟩,ar.aZ ⟨fe,rfl,rfl,rfl,rfl,Rf rfl,Rf rfl,Rf rfl,trivial⟩ rfl rfl,?_⟩;show l.length-(i.k+1)<l.length-i.k;omega
 try simp only[ai]at c1
 refine AW.exit ?_;dsimp only[aJ,ay,reduceIte];refine bP ?_;refine mn ?_;refine qq (Qt.iy rfl) ?_;refine nc (λc5=>?_) λc5=>?_
 ·try simp only[ai]at c5
  refine AW.region ?_;refine qm ?_;refine qG g_ dh ?_;refine nm ?_;refine sp (aK.bR (replicate 10 .j) rfl (by decide) (by decide) rfl (by decide) rfl (by rfl) rfl rfl (ak rfl)) ?_;refine nm ?_;refine az.bQ 42 (tr [p]) rfl (cg (α:=aB) (λc hc=>match c,hc with|0,_=>au|1,_=>au|2,_=>au|3,_=>au|4,_=>au|5,_=>au|6,_=>au|7,_=>au|8,_=>au|9,_=>au|c+10,hc=>absurd hc (by simp only[En.n];omega))) ?_;refine nm ?_;refine sp (aK.bu rfl (by decide) (by decide) rfl rfl rfl (by simp only[length_cons,length_nil,length_append];omega)) ?_;refine nm ?_;refine az.bQ 43 (tr (cC aB.f0 l p i.k++[p])) rfl (ct (l:=cC aB.f0 l p i.k) (l':=[p]) rfl (λ_ _ _ _=>rfl) (λ_ _ _ _=>rfl)) ?_;refine nm ?_;refine fi ?_;refine qm ?_;refine qr 4 ?_;rw[show bO aB.f0 l p=cC aB.f0 l p i.k++[p]from by rw[gI (k:=i.k) (by omega) (by omega),if_neg (by simpa using c5)]];refine⟨λ_=>43,rfl,ak rfl,?_⟩;intro r hr;cases List.mem_singleton.1 hr;exact⟨by simp,aq rfl⟩
 try simp only[ai]at c5
 refine jd (sr ?_);refine mn ?_;refine qr 4 ?_;rw[show bO aB.f0 l p=cC aB.f0 l p i.k from by rw[gI (k:=i.k) (by omega) (by omega),if_pos (by simpa using c5)]];refine⟨λ_=>37,rfl,ak rfl,?_⟩;intro r hr;cases List.mem_singleton.1 hr;exact⟨by simp,aq rfl⟩
end Go.Proofs.YtekcnnngjoonbaaGreat.VM
