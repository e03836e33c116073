/- Contracts. No conditions. -/
import Derived.Test.YtekcnnngjoonbaaGreatWF
import Derived.Test.YtekcnnngjoonbaaGreatWH
import Derived.Test.YtekcnnngjoonbaaGreatWw
set_option linter.all false
set_option maxHeartbeats 8000000
set_option maxRecDepth 10000
namespace Go.Proofs.YtekcnnngjoonbaaGreat.VM
open List Nat
open Go Go.RowKit Go.Proofs
theorem kV(P X S:List aF)(xa xb:Int)(hxa:xa=(P.length:Nat))(hxb:xb=(P.length+X.length:Nat))(hl:(P++(X++S)).length≤4611686018427387904):bf Tryz.prog 176 [.h aa [], .v (iv xa), .v (iv xb), .f 52 []] [.rt aa .row (tr (P++(X++S)))] (cn (.t []) [] [(aa,tr (P++(ap aF.f0 X++S)))]):=by
 subst hxa hxb;exact qW P X S _ _ rfl rfl hl
theorem pd(P X:List aF)(xa xb:Int)(hxa:xa=(P.length:Nat))(hxb:xb=(P.length+X.length:Nat))(hl:(P++X).length≤4611686018427387904):bf Tryz.prog 176 [.h aa [], .v (iv xa), .v (iv xb), .f 52 []] [.rt aa .row (tr (P++X))] (cn (.t []) [] [(aa,tr (P++ap aF.f0 X))]):=by
 have h:=kV P X [] xa xb hxa hxb (by rw[append_nil];exact hl)
 rwa [append_nil,append_nil]at h
theorem mb:∀n,p6 n
 | 0=>λP X Y S xa xm xb _ _ _ h hx=>absurd h (by omega)
 | n+1=>λP X Y S xa xm xb ha hm hb h hx hy hX hY hl=>by
  subst ha hm hb;exact pa n (mb n) P X Y S _ _ _ rfl rfl rfl h hx hy hX hY hl
theorem kY(P X Y S:List aF)(xa xm xb:Int)(ha:xa=(P.length:Nat))(hm:xm=(P.length+X.length:Nat))(hb:xb=(P.length+X.length+Y.length:Nat))(hx:0<X.length)(hy:0<Y.length)(hX:gl aF.f0 X)(hY:gl aF.f0 Y)(hl:P.length+X.length+Y.length+S.length≤2305843009213693952):bf Tryz.prog 177 [.h aa [], .v (iv xa), .v (iv xm), .v (iv xb), .f 52 []] [.rt aa .row (tr (aP P X Y S))] (cn (.t []) [] [(aa,tr (P++(ap aF.f0 (X++Y)++S)))]):=
 mb (X.length+Y.length) P X Y S xa xm xb ha hm hb (Nat.le_refl _) hx hy hX hY hl
theorem m5(l:List aF)(hl:l.length≤100000000):bf Tryz.prog 123 [.h aa [], .v (iv l.length), .f 52 []] [.rt aa .row (tr l)] (cn (.t []) [] [(aa,tr (ap aF.f0 l))]):=by
 refine ob Tryz.func123 Tryz.ntmps123 ?_;refine sr ?_;refine fi ?_;refine qm ?_;refine qa ?_;refine nm ?_;refine qn ?_;refine AW.seq (AW.block ?_);refine AW.bc (L':=[.sl 6 (.v (iv 20)), .sl 7 (.v (iv (0:Nat))), .sl 8 (.v (iv (0+20:Nat))), .sl 0 (.h aa []), .sl 1 (.v (iv (l.length:Nat))), .sl 2 (.f 52 []), .rt aa .row (tr ((ch aF.f0 20 l 0)++l.drop 0))]) (ar.aZ ⟨rfl,rfl,rfl,rfl,rfl,rfl,⟨_,rfl,(by rw[drop_zero];exact au)⟩,trivial⟩ rfl rfl) ?_;refine AW.loop (λi:BI 20 l.length=>[.sl 6 (.v (iv 20)), .sl 7 (.v (iv (i.a:Nat))), .sl 8 (.v (iv (i.a+20:Nat))), .sl 0 (.h aa []), .sl 1 (.v (iv (l.length:Nat))), .sl 2 (.f 52 []), .rt aa .row (tr ((ch aF.f0 20 l i.k)++l.drop i.a))]) (λi=>l.length-i.a) ⟨0,0,rfl,zero_le _⟩ ?_;intro i;have hia:=i.le;have hib:=fP aF.f0 i;have hid:(l.drop i.a).length=l.length-i.a:=length_drop;refine bP ?_;refine qm ?_;refine mn ?_;refine qb ?_;refine nc (λc1=>?_) λc1=>?_
 ·try simp only[ai]at c1
  refine jd (AW.block (sr ?_));refine qm ?_;refine mn ?_;refine qm ?_;refine mn ?_;refine az.bQ aa (tr ((ch aF.f0 20 l i.k)++((l.drop i.a).take 20++l.drop (i.a+20)))) rfl (bM (by rw[←drop_drop,take_append_drop])) ?_;refine nm ?_;refine sp (aK.bW rfl (by decide) Tryz.call176 rfl (kV (ch aF.f0 20 l i.k) ((l.drop i.a).take 20) (l.drop (i.a+20)) _ _ (by omega) (by rw[length_take];omega) (by simp only[length_append,length_take,length_drop];omega)) rfl rfl rfl (ak rfl) rfl rfl) ?_;refine ns ?_;refine mn ?_;refine qn ?_;refine AW.region ?_;refine qm ?_;refine mn ?_;refine ba ?_;refine qn ?_;refine⟨⟨i.k+1,i.a+20,i.next,by omega⟩,ar.aZ ⟨rfl,rfl,cT (by show _=((i.a+20+20:Nat):Int);omega),rfl,rfl,rfl,⟨_,rfl,bM (by rw[cA aF.f0 i,append_assoc])⟩,trivial⟩ rfl rfl,?_⟩;show l.length-(i.a+20)<l.length-i.a;omega
 try simp only[ai]at c1
 refine AW.exit ?_;dsimp only[aJ,ay,reduceIte];refine sr ?_;refine mn ?_;refine qm ?_;refine qm ?_;refine mn ?_;refine sp (aK.bW rfl (by decide) Tryz.call176 rfl (pd (ch aF.f0 20 l i.k) (l.drop i.a) _ _ (by omega) (by omega) (by rw[length_append];omega)) rfl rfl rfl (ak rfl) rfl rfl) ?_;have hin:=i.next;refine nm ?_;refine az.bQ aa (tr (full aF.f0 20 l)) rfl (bM (by rw[←eh aF.f0 (k:=i.k+1) (by omega) (by omega),cA aF.f0 i,take_of_length_le (by omega)])) ?_;refine nl ?_;refine AW.block ?_;refine AW.bc (L':=[.sl 6 (.v (iv (20:Nat))), .sl 0 (.h aa []), .sl 1 (.v (iv (l.length:Nat))), .sl 2 (.f 52 []), .rt aa .row (tr (full aF.f0 20 l))]) (ar.aZ ⟨rfl,rfl,rfl,rfl,Rf rfl,trivial⟩ rfl rfl) ?_;refine AW.loop (λq:QI l.length=>[.sl 6 (.v (iv (q.bs:Nat))), .sl 0 (.h aa []), .sl 1 (.v (iv (l.length:Nat))), .sl 2 (.f 52 []), .rt aa .row (tr (full aF.f0 q.bs l))]) (λq=>l.length-q.bs) ⟨20,by omega,by omega⟩ ?_;intro q;have hq1:=q.h1;have hq2:=q.h2;refine bP ?_;refine mn ?_;refine qm ?_;refine qb ?_;refine nc (λc2=>?_) λc2=>?_
 ·try simp only[ai]at c2
  refine jd (AW.block (sr ?_));refine mn ?_;refine qq (Qt.binOp rfl rfl (by first|exact eJ (by omega)|rfl)) ?_;refine qa ?_;refine qn ?_;refine AW.seq (AW.block ?_);refine AW.bc (L':=[.sl 6 (.v (iv (q.bs:Nat))), .sl 7 (.v (iv (0:Nat))), .sl 8 (.v (iv (0+(q.bs+q.bs):Nat))), .sl 0 (.h aa []), .sl 1 (.v (iv (l.length:Nat))), .sl 2 (.f 52 []), .rt aa .row (tr ((ch aF.f0 (q.bs+q.bs) l 0)++(full aF.f0 q.bs (l.drop 0))))]) (ar.aZ ⟨rfl,rfl,cT (by omega),rfl,rfl,rfl,⟨_,rfl,bM (by rw[drop_zero];rfl)⟩,trivial⟩ rfl rfl) ?_;refine AW.loop (λw:BI (q.bs+q.bs) l.length=>[.sl 6 (.v (iv (q.bs:Nat))), .sl 7 (.v (iv (w.a:Nat))), .sl 8 (.v (iv (w.a+(q.bs+q.bs):Nat))), .sl 0 (.h aa []), .sl 1 (.v (iv (l.length:Nat))), .sl 2 (.f 52 []), .rt aa .row (tr ((ch aF.f0 (q.bs+q.bs) l w.k)++(full aF.f0 q.bs (l.drop w.a))))]) (λw=>l.length-w.a) ⟨0,0,by simp,zero_le _⟩ ?_;intro w;have hwa:=w.le;have hwb:=fP aF.f0 w;have hwd:(l.drop w.a).length=l.length-w.a:=length_drop;refine bP ?_;refine mn ?_;refine qm ?_;refine qb ?_;refine nc (λc3=>?_) λc3=>?_
  ·try simp only[ai]at c3
   have n1:(ap aF.f0 ((l.drop w.a).take q.bs)).length=q.bs:=(by simp only[aT,length_take,length_drop]<;>omega)
   have n2:(ap aF.f0 (((l.drop w.a).drop q.bs).take q.bs)).length=q.bs:=(by simp only[aT,length_take,length_drop]<;>omega)
   have n3:(full aF.f0 q.bs ((l.drop w.a).drop (q.bs+q.bs))).length=l.length-w.a-(q.bs+q.bs):=by rw[lM aF.f0 hq1,length_drop];omega
   refine jd (AW.block (sr ?_));refine mn ?_;refine qm ?_;refine qm ?_;refine mn ?_;refine ba ?_;refine qm ?_;refine mn ?_;refine az.bQ aa (tr (aP (ch aF.f0 (q.bs+q.bs) l w.k) (ap aF.f0 ((l.drop w.a).take q.bs)) (ap aF.f0 (((l.drop w.a).drop q.bs).take q.bs)) (full aF.f0 q.bs ((l.drop w.a).drop (q.bs+q.bs))))) rfl (bM (by rw[l5 aF.f0 hq1];rfl)) ?_;refine nm ?_;refine sp (aK.bW rfl (by decide) Tryz.call177 rfl (kY (ch aF.f0 (q.bs+q.bs) l w.k) (ap aF.f0 ((l.drop w.a).take q.bs)) (ap aF.f0 (((l.drop w.a).drop q.bs).take q.bs)) (full aF.f0 q.bs ((l.drop w.a).drop (q.bs+q.bs))) _ _ _ (by omega) (by omega) (by omega) (by omega) (by omega) (cj _ _) (cj _ _) (by omega)) rfl rfl rfl (ak rfl) rfl rfl) ?_;refine ns ?_;refine mn ?_;refine qn ?_;refine AW.region ?_;refine qm ?_;refine mn ?_;refine qq (Qt.binOp rfl rfl (by first|exact eJ (by omega)|rfl)) ?_;refine ba ?_;refine qn ?_;refine⟨⟨w.k+1,w.a+(q.bs+q.bs),w.next,by omega⟩,ar.aZ ⟨rfl,rfl,cT (by show _=((w.a+(q.bs+q.bs)+(q.bs+q.bs):Nat):Int);omega),rfl,rfl,rfl,⟨_,rfl,bM (by rw[kH,cA aF.f0 w,append_assoc,drop_drop])⟩,trivial⟩ rfl rfl,?_⟩;show l.length-(w.a+(q.bs+q.bs))<l.length-w.a;omega
  try simp only[ai]at c3
  have hwn:=w.next;have hful:(full aF.f0 (q.bs+q.bs) l)=(ch aF.f0 (q.bs+q.bs) l w.k)++ap aF.f0 (l.drop w.a):=by
   rw[←eh aF.f0 (k:=w.k+1) (by omega) (by omega),cA aF.f0 w,take_of_length_le (by omega)]
  refine AW.exit ?_;dsimp only[aJ,ay,reduceIte];refine bP ?_;refine mn ?_;refine qm ?_;refine ba ?_;refine fi ?_;refine mn ?_;refine qm ?_;refine qb ?_;refine nc (λc4=>?_) λc4=>?_
  ·try simp only[ai]at c4
   have n1:(ap aF.f0 ((l.drop w.a).take q.bs)).length=q.bs:=(by simp only[aT,length_take,length_drop]<;>omega)
   have n2:(ap aF.f0 ((l.drop w.a).drop q.bs)).length=l.length-w.a-q.bs:=(by simp only[aT,length_take,length_drop]<;>omega)
   refine AW.region ?_;refine mn ?_;refine qm ?_;refine qm ?_;refine mn ?_;refine mn ?_;refine az.bQ aa (tr (aP (ch aF.f0 (q.bs+q.bs) l w.k) (ap aF.f0 ((l.drop w.a).take q.bs)) (ap aF.f0 ((l.drop w.a).drop q.bs)) [])) rfl (bM (by rw[ik aF.f0 hq1,dr aF.f0 hq1 (by rw[length_drop];omega)];first|done|simp only[aP,append_nil])) ?_;refine nm ?_;refine sp (aK.bW rfl (by decide) Tryz.call177 rfl (kY (ch aF.f0 (q.bs+q.bs) l w.k) (ap aF.f0 ((l.drop w.a).take q.bs)) (ap aF.f0 ((l.drop w.a).drop q.bs)) [] _ _ _ (by omega) (by omega) (by omega) (by omega) (by omega) (cj _ _) (cj _ _) (by simp only[length_nil];omega)) rfl rfl rfl (ak rfl) rfl rfl) ?_;refine nl ?_;refine AW.region ?_;refine mn ?_;refine qq (Qt.binOp rfl rfl (by first|exact eJ (by omega)|rfl)) ?_;refine qn ?_;have hfin:(ch aF.f0 (q.bs+q.bs) l w.k)++ap aF.f0 ((ap aF.f0 ((l.drop w.a).take q.bs))++(ap aF.f0 ((l.drop w.a).drop q.bs)))=(full aF.f0 (q.bs+q.bs) l):=by rw[jz,take_append_drop,hful]
   refine⟨⟨q.bs+q.bs,by omega,by omega⟩,ar.aZ ⟨cT (by show _=((q.bs+q.bs:Nat):Int);omega),rfl,rfl,rfl,⟨_,rfl,bM hfin⟩,trivial⟩ rfl rfl,?_⟩;show l.length-(q.bs+q.bs)<l.length-q.bs;omega
  try simp only[ai]at c4
  refine jd (AW.region ?_);refine mn ?_;refine qq (Qt.binOp rfl rfl (by first|exact eJ (by omega)|rfl)) ?_;refine qn ?_;have hfin:(ch aF.f0 (q.bs+q.bs) l w.k)++(full aF.f0 q.bs (l.drop w.a))=(full aF.f0 (q.bs+q.bs) l):=by rw[hful,dr aF.f0 hq1 (by omega)]
  refine⟨⟨q.bs+q.bs,by omega,by omega⟩,ar.aZ ⟨cT (by show _=((q.bs+q.bs:Nat):Int);omega),rfl,rfl,rfl,⟨_,rfl,bM hfin⟩,trivial⟩ rfl rfl,?_⟩;show l.length-(q.bs+q.bs)<l.length-q.bs;omega
 try simp only[ai]at c2
 refine AW.exit ?_;dsimp only[aJ,ay,reduceIte];have hf:(full aF.f0 q.bs l)=ap aF.f0 l:=dr aF.f0 hq1 (by omega);rw[←hf];refine⟨.inr rfl,[], .nil,?_⟩;refine⟨λn=>n,rfl,λ_ _=>rfl,nodup_nil,(by simp),?_⟩;intro p hp;cases List.mem_singleton.1 hp;exact aq rfl
theorem oA(l:List aF)(hl:l.length≤100000000):bf Tryz.prog 51 [.h aa [], .f 52 []] [.rt aa .row (tr l)] (cn (.t []) [] [(aa,tr (ap aF.f0 l))]):=by
 refine ob Tryz.func51 Tryz.ntmps51 ?_;refine AW.region ?_;refine qm ?_;refine qm ?_;refine qh ez ?_;refine nm ?_;refine qm ?_;refine sp (aK.bW rfl (by decide) Tryz.call123 rfl (m5 l hl) rfl rfl rfl (ak rfl) rfl rfl) ?_;refine nl ?_;refine⟨.inr rfl,[], .nil,?_⟩;refine⟨λn=>n,rfl,λ_ _=>rfl,nodup_nil,(by simp),?_⟩;intro p hp;cases List.mem_singleton.1 hp;exact aq rfl
open Go Go.RowKit Go.Proofs
def jO(p:cm)(r1:Value):aF:=⟨p.Name,(k9 r1).1,(k9 r1).2.1,(k9 r1).2.2⟩
theorem m8(l:List cm)(hl:l.length≤100000000):bf Tryz.prog 51 [.h aa [], .f 52 []] [.rt aa .row (tr l)] (cn (.t []) [] [(aa,tr (ap cm.Name l))]):=
 nY cm.Name aF.f0 rfl rfl l (λV h1 h2 h3=>by
  have hg:∀k,k<l.length→((range l.length).map λk=>jO (l.getD k En.ab) (V k 1)).getD k En.ab=jO (l.getD k En.ab) (V k 1):=λk hk=>by
   rw[getD_eq_getElem?_getD,getElem?_map,getElem?_range hk];rfl
  refine⟨(range l.length).map λk=>jO (l.getD k En.ab) (V k 1),by simp,λk c hk hc=>?_,λk hk=>by rw[hg k hk];rfl⟩;rw[hg k hk]
  match c,hc with
  | 0,hc=>rw[h2 k 0 _ hk hc rfl];rfl
  | 1,hc=>obtain⟨a,cap,e⟩:=h3 k 1 _ _ _ hk hc rfl;rw[e];simp only[jO,e];rfl
  | c+2,hc=>exact absurd hc (by show ¬c+2<2;omega)) λlp hlp=>oA lp (by omega)
open Go Go.RowKit Go.Proofs
theorem p8(p:cm)(U:Nat→Value)(h1:∀c x,c<2→(En.cs p).getD c .j= .v x→U c=x)(h2:∀c n0 l g,c<2→(En.cs p).getD c .j= .s n0 l g→∃a cap,U c= .slice a l cap):∀c,c<2→(En.cs (jO p (U 1))).getD c .j= .v (U c):=λc hc=>by
 match c,hc with
 | 0,hc=>rw[h1 0 _ hc rfl];rfl
 | 1,hc=>obtain⟨a,cap,e⟩:=h2 1 _ _ _ hc rfl;rw[e];simp only[jO,e];rfl
 | c+2,hc=>exact absurd hc (by omega)
def yl:Nat→Option Nat
 | 1=>some (aa+1)
 | _=>none
def t_(U:Nat→Value):X:= .g [.v (U 0), .v (U 1)]
theorem oC(l:List cm)(p:cm)(hs:l.length≤2000000):bf Tryz.prog 101 [.h aa [], .g [.v (iv p.Name), .h (aa+1) []]] [.rt aa .row (tr l), .rt (aa+1) .row (tr p.Data)] (cn (.h 0 []) [(0, .row,tr (bO cm.Name l p))] [(aa, .j),(aa+1, .j)]):=by
 have hle:=ka (l.map cm.Name) (cm.Name p);rw[length_map]at hle;have eT:tr (bO cm.Name l p)= .s 2 (l.length+1) λk c=>if k<eN (l.map cm.Name) (cm.Name p)then(En.cs (l.getD k En.ab)).getD c .j else if k=eN (l.map cm.Name) (cm.Name p)then(En.cs p).getD c .j else(En.cs (l.getD (k-1) En.ab)).getD c .j:=by
  show T.s 2 (bO cm.Name l p).length (λk c=>(En.cs ((bO cm.Name l p).getD k En.ab)).getD c .j)=_;rw[fa];congr 1;funext k c;rw[fM];split
  ·rfl
  ·split<;>rfl
 rw[eT];refine lY (gT:=λc=>(En.cs p).getD c .j) (fT:=λk c=>(En.cs (l.getD k En.ab)).getD c .j) yl [aa+1] _ (eN (l.map cm.Name) (cm.Name p)) hle t_ (λid m t h=>?_) (λid h=>?_) (λc id hc h=>?_) (λc c' id hc hc' h h'=>?_) (λR H w vp h=>?_) λV U h1 h2 h3 h4=>?_
 ·simp only[aW,mem_cons,not_mem_nil,or_false,E.rt.injEq]at h;rcases h with⟨rfl,_⟩<;>omega
 ·simp only[mem_cons,not_mem_nil,or_false]at h;rcases h with rfl
  exact⟨by omega,_,mem_cons_self ..⟩
 ·match c,hc,h with
  | 1,_,h=>cases h;exact mem_cons_self ..
 ·match c,c',h,h' with
  | 1,1,_,_=>rfl
 ·obtain⟨vs,e,h⟩:=h
  match vs,h with
  | [u0,u1],⟨e0,⟨_,_,_,_,_,q1⟩,_⟩=>
  simp only[hd,Option.some.injEq]at q1;obtain rfl:u0=_:=e0;refine⟨λc=>[iv p.Name,u1].getD c undef,λR' H' w'=>⟨_,e,rfl,rfl,trivial⟩,λc hc=>?_⟩
  match c,hc with
  | 0,_=>exact⟨λ_=>⟨rfl,rfl⟩,λid h=>by cases h⟩
  | 1,_=>exact⟨λh=>(by cases h),λid h=>by cases h;exact q1.symm⟩
  | c+2,hc=>exact absurd (show c+2<2 from hc) (by omega)
 ·let lp:=(range l.length).map λk=>jO (l.getD k En.ab) (V k 1);let pp:=jO p (U 1);have hl:lp.length=l.length:=by simp[lp]
  have hg:∀k,k<l.length→lp.getD k En.ab=jO (l.getD k En.ab) (V k 1):=λk hk=>by
   rw[getD_eq_getElem?_getD,getElem?_map,getElem?_range hk];rfl
  have hcs:∀k c,k<l.length→c<2→(En.cs (lp.getD k En.ab)).getD c .j= .v (V k c):=λk c hk hc=>by
   rw[hg k hk];exact p8 _ (V k) (λc x hc=>h1 k c x hk hc) (λc n0 l g hc=>h2 k c n0 l g hk hc) c hc
  have hps:∀c,c<2→(En.cs pp).getD c .j= .v (U c):=p8 p U h3 h4;have hkey:lp.map aF.f0=l.map cm.Name:=by
   conv=>rhs;rw[←gq l En.ab]
   rw[map_map,map_map];rfl
  have hc:=qz lp pp (by omega);have hX:t_ U= .g [.v (iv pp.f0), .v (.slice pp.xx pp.x_ pp.w4)]:=by
   unfold t_;rw[←T.v.inj (hps 0 (by omega)),←T.v.inj (hps 1 (by omega))]
  rw[←hX,show tr lp= .s 2 l.length (λk c=>(En.cs (lp.getD k En.ab)).getD c .j)from congrArg (λm=>T.s 2 m λk c=>(En.cs (lp.getD k En.ab)).getD c .j) hl,show tr (bO aF.f0 lp pp)= .s 2 (l.length+1) (λk c=>(En.cs ((bO aF.f0 lp pp).getD k En.ab)).getD c .j)from congrArg (λm=>T.s 2 m λk c=>(En.cs ((bO aF.f0 lp pp).getD k En.ab)).getD c .j) (by rw[fa,hl])]at hc;refine⟨_,_,hcs,λk c hk hc=>?_,hc⟩;rw[fM,hkey,show aF.f0 pp=cm.Name p from rfl];split
  ·exact hcs k c (by omega) hc
  ·split
   ·exact hps c hc
   ·exact hcs (k-1) c (by omega) hc
end Go.Proofs.YtekcnnngjoonbaaGreat.VM
