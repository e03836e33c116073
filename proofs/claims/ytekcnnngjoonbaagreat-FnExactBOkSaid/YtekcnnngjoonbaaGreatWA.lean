/- Contracts. No conditions. -/
import Derived.Test.YtekcnnngjoonbaaGreatWw
import Derived.Test.YtekcnnngjoonbaaGreatWx
import Derived.Test.YtekcnnngjoonbaaGreatWz
set_option linter.all false
set_option maxHeartbeats 8000000
set_option maxRecDepth 10000
namespace Go.Proofs.YtekcnnngjoonbaaGreat.VM
open List Nat
open Go Go.RowKit Go.Proofs
theorem kW(P X S:List aw)(xa xb:Int)(hxa:xa=(P.length:Nat))(hxb:xb=(P.length+X.length:Nat))(hl:(P++(X++S)).length≤4611686018427387904):bf Tryz.prog 172 [.h aa [], .v (iv xa), .v (iv xb), .f 47 []] [.rt aa .row (tr (P++(X++S)))] (cn (.t []) [] [(aa,tr (P++(ap aw.Id X++S)))]):=by
 subst hxa hxb;exact qP P X S _ _ rfl rfl hl
theorem oY(P X:List aw)(xa xb:Int)(hxa:xa=(P.length:Nat))(hxb:xb=(P.length+X.length:Nat))(hl:(P++X).length≤4611686018427387904):bf Tryz.prog 172 [.h aa [], .v (iv xa), .v (iv xb), .f 47 []] [.rt aa .row (tr (P++X))] (cn (.t []) [] [(aa,tr (P++ap aw.Id X))]):=by
 have h:=kW P X [] xa xb hxa hxb (by rw[append_nil];exact hl)
 rwa [append_nil,append_nil]at h
theorem lT:∀n,pS n
 | 0=>λP X Y S xa xm xb _ _ _ h hx=>absurd h (by omega)
 | n+1=>λP X Y S xa xm xb ha hm hb h hx hy hX hY hl=>by
  subst ha hm hb;exact pk n (lT n) P X Y S _ _ _ rfl rfl rfl h hx hy hX hY hl
theorem kU(P X Y S:List aw)(xa xm xb:Int)(ha:xa=(P.length:Nat))(hm:xm=(P.length+X.length:Nat))(hb:xb=(P.length+X.length+Y.length:Nat))(hx:0<X.length)(hy:0<Y.length)(hX:gl aw.Id X)(hY:gl aw.Id Y)(hl:P.length+X.length+Y.length+S.length≤2305843009213693952):bf Tryz.prog 173 [.h aa [], .v (iv xa), .v (iv xm), .v (iv xb), .f 47 []] [.rt aa .row (tr (aP P X Y S))] (cn (.t []) [] [(aa,tr (P++(ap aw.Id (X++Y)++S)))]):=
 lT (X.length+Y.length) P X Y S xa xm xb ha hm hb (Nat.le_refl _) hx hy hX hY hl
theorem mZ(l:List aw)(hl:l.length≤100000000):bf Tryz.prog 121 [.h aa [], .v (iv l.length), .f 47 []] [.rt aa .row (tr l)] (cn (.t []) [] [(aa,tr (ap aw.Id l))]):=by
 refine ob Tryz.func121 Tryz.ntmps121 ?_;refine sr ?_;refine fi ?_;refine qm ?_;refine qa ?_;refine nm ?_;refine qn ?_;refine AW.seq (AW.block ?_);refine AW.bc (L':=[.sl 6 (.v (iv 20)), .sl 7 (.v (iv (0:Nat))), .sl 8 (.v (iv (0+20:Nat))), .sl 0 (.h aa []), .sl 1 (.v (iv (l.length:Nat))), .sl 2 (.f 47 []), .rt aa .row (tr ((ch aw.Id 20 l 0)++l.drop 0))]) (ar.aZ ⟨rfl,rfl,rfl,rfl,rfl,rfl,⟨_,rfl,(by rw[drop_zero];exact au)⟩,trivial⟩ rfl rfl) ?_;refine AW.loop (λi:BI 20 l.length=>[.sl 6 (.v (iv 20)), .sl 7 (.v (iv (i.a:Nat))), .sl 8 (.v (iv (i.a+20:Nat))), .sl 0 (.h aa []), .sl 1 (.v (iv (l.length:Nat))), .sl 2 (.f 47 []), .rt aa .row (tr ((ch aw.Id 20 l i.k)++l.drop i.a))]) (λi=>l.length-i.a) ⟨0,0,rfl,zero_le _⟩ ?_;intro i;have hia:=i.le;have hib:=fP aw.Id i;have hid:(l.drop i.a).length=l.length-i.a:=length_drop;refine bP ?_;refine qm ?_;refine mn ?_;refine qb ?_;refine nc (λc1=>?_) λc1=>?_
 ·try simp only[ai]at c1
  refine jd (AW.block (sr ?_));refine qm ?_;refine mn ?_;refine qm ?_;refine mn ?_;refine az.bQ aa (tr ((ch aw.Id 20 l i.k)++((l.drop i.a).take 20++l.drop (i.a+20)))) rfl (bM (by rw[←drop_drop,take_append_drop])) ?_;refine nm ?_;refine sp (aK.bW rfl (by decide) Tryz.call172 rfl (kW (ch aw.Id 20 l i.k) ((l.drop i.a).take 20) (l.drop (i.a+20)) _ _ (by omega) (by rw[length_take];omega) (by simp only[length_append,length_take,length_drop];omega)) rfl rfl rfl (ak rfl) rfl rfl) ?_;refine ns ?_;refine mn ?_;refine qn ?_;refine AW.region ?_;refine qm ?_;refine mn ?_;refine ba ?_;refine qn ?_;refine⟨⟨i.k+1,i.a+20,i.next,by omega⟩,ar.aZ ⟨rfl,rfl,cT (by show _=((i.a+20+20:Nat):Int);omega),rfl,rfl,rfl,⟨_,rfl,bM (by rw[cA aw.Id i,append_assoc])⟩,trivial⟩ rfl rfl,?_⟩;show l.length-(i.a+20)<l.length-i.a;omega
 try simp only[ai]at c1
 refine AW.exit ?_;dsimp only[aJ,ay,reduceIte];refine sr ?_;refine mn ?_;refine qm ?_;refine qm ?_;refine mn ?_;refine sp (aK.bW rfl (by decide) Tryz.call172 rfl (oY (ch aw.Id 20 l i.k) (l.drop i.a) _ _ (by omega) (by omega) (by rw[length_append];omega)) rfl rfl rfl (ak rfl) rfl rfl) ?_;have hin:=i.next;refine nm ?_;refine az.bQ aa (tr (full aw.Id 20 l)) rfl (bM (by rw[←eh aw.Id (k:=i.k+1) (by omega) (by omega),cA aw.Id i,take_of_length_le (by omega)])) ?_;refine nl ?_;refine AW.block ?_;refine AW.bc (L':=[.sl 6 (.v (iv (20:Nat))), .sl 0 (.h aa []), .sl 1 (.v (iv (l.length:Nat))), .sl 2 (.f 47 []), .rt aa .row (tr (full aw.Id 20 l))]) (ar.aZ ⟨rfl,rfl,rfl,rfl,Rf rfl,trivial⟩ rfl rfl) ?_;refine AW.loop (λq:QI l.length=>[.sl 6 (.v (iv (q.bs:Nat))), .sl 0 (.h aa []), .sl 1 (.v (iv (l.length:Nat))), .sl 2 (.f 47 []), .rt aa .row (tr (full aw.Id q.bs l))]) (λq=>l.length-q.bs) ⟨20,by omega,by omega⟩ ?_;intro q;have hq1:=q.h1;have hq2:=q.h2;refine bP ?_;refine mn ?_;refine qm ?_;refine qb ?_;refine nc (λc2=>?_) λc2=>?_
 ·try simp only[ai]at c2
  refine jd (AW.block (sr ?_));refine mn ?_;refine qq (Qt.binOp rfl rfl (by first|exact eJ (by omega)|rfl)) ?_;refine qa ?_;refine qn ?_;refine AW.seq (AW.block ?_);refine AW.bc (L':=[.sl 6 (.v (iv (q.bs:Nat))), .sl 7 (.v (iv (0:Nat))), .sl 8 (.v (iv (0+(q.bs+q.bs):Nat))), .sl 0 (.h aa []), .sl 1 (.v (iv (l.length:Nat))), .sl 2 (.f 47 []), .rt aa .row (tr ((ch aw.Id (q.bs+q.bs) l 0)++(full aw.Id q.bs (l.drop 0))))]) (ar.aZ ⟨rfl,rfl,cT (by omega),rfl,rfl,rfl,⟨_,rfl,bM (by rw[drop_zero];rfl)⟩,trivial⟩ rfl rfl) ?_;refine AW.loop (λw:BI (q.bs+q.bs) l.length=>[.sl 6 (.v (iv (q.bs:Nat))), .sl 7 (.v (iv (w.a:Nat))), .sl 8 (.v (iv (w.a+(q.bs+q.bs):Nat))), .sl 0 (.h aa []), .sl 1 (.v (iv (l.length:Nat))), .sl 2 (.f 47 []), .rt aa .row (tr ((ch aw.Id (q.bs+q.bs) l w.k)++(full aw.Id q.bs (l.drop w.a))))]) (λw=>l.length-w.a) ⟨0,0,by simp,zero_le _⟩ ?_;intro w;have hwa:=w.le;have hwb:=fP aw.Id w;have hwd:(l.drop w.a).length=l.length-w.a:=length_drop;refine bP ?_;refine mn ?_;refine qm ?_;refine qb ?_;refine nc (λc3=>?_) λc3=>?_
  ·try simp only[ai]at c3
   have n1:(ap aw.Id ((l.drop w.a).take q.bs)).length=q.bs:=(by simp only[aT,length_take,length_drop]<;>omega)
   have n2:(ap aw.Id (((l.drop w.a).drop q.bs).take q.bs)).length=q.bs:=(by simp only[aT,length_take,length_drop]<;>omega)
   have n3:(full aw.Id q.bs ((l.drop w.a).drop (q.bs+q.bs))).length=l.length-w.a-(q.bs+q.bs):=by rw[lM aw.Id hq1,length_drop];omega
   refine jd (AW.block (sr ?_));refine mn ?_;refine qm ?_;refine qm ?_;refine mn ?_;refine ba ?_;refine qm ?_;refine mn ?_;refine az.bQ aa (tr (aP (ch aw.Id (q.bs+q.bs) l w.k) (ap aw.Id ((l.drop w.a).take q.bs)) (ap aw.Id (((l.drop w.a).drop q.bs).take q.bs)) (full aw.Id q.bs ((l.drop w.a).drop (q.bs+q.bs))))) rfl (bM (by rw[l5 aw.Id hq1];rfl)) ?_;refine nm ?_;refine sp (aK.bW rfl (by decide) Tryz.call173 rfl (kU (ch aw.Id (q.bs+q.bs) l w.k) (ap aw.Id ((l.drop w.a).take q.bs)) (ap aw.Id (((l.drop w.a).drop q.bs).take q.bs)) (full aw.Id q.bs ((l.drop w.a).drop (q.bs+q.bs))) _ _ _ (by omega) (by omega) (by omega) (by omega) (by omega) (cj _ _) (cj _ _) (by omega)) rfl rfl rfl (ak rfl) rfl rfl) ?_;refine ns ?_;refine mn ?_;refine qn ?_;refine AW.region ?_;refine qm ?_;refine mn ?_;refine qq (Qt.binOp rfl rfl (by first|exact eJ (by omega)|rfl)) ?_;refine ba ?_;refine qn ?_;refine⟨⟨w.k+1,w.a+(q.bs+q.bs),w.next,by omega⟩,ar.aZ ⟨rfl,rfl,cT (by show _=((w.a+(q.bs+q.bs)+(q.bs+q.bs):Nat):Int);omega),rfl,rfl,rfl,⟨_,rfl,bM (by rw[kH,cA aw.Id w,append_assoc,drop_drop])⟩,trivial⟩ rfl rfl,?_⟩;show l.length-(w.a+(q.bs+q.bs))<l.length-w.a;omega
  try simp only[ai]at c3
  have hwn:=w.next;have hful:(full aw.Id (q.bs+q.bs) l)=(ch aw.Id (q.bs+q.bs) l w.k)++ap aw.Id (l.drop w.a):=by
   rw[←eh aw.Id (k:=w.k+1) (by omega) (by omega),cA aw.Id w,take_of_length_le (by omega)]
  refine AW.exit ?_;dsimp only[aJ,ay,reduceIte];refine bP ?_;refine mn ?_;refine qm ?_;refine ba ?_;refine fi ?_;refine mn ?_;refine qm ?_;refine qb ?_;refine nc (λc4=>?_) λc4=>?_
  ·try simp only[ai]at c4
   have n1:(ap aw.Id ((l.drop w.a).take q.bs)).length=q.bs:=(by simp only[aT,length_take,length_drop]<;>omega)
   have n2:(ap aw.Id ((l.drop w.a).drop q.bs)).length=l.length-w.a-q.bs:=(by simp only[aT,length_take,length_drop]<;>omega)
   refine AW.region ?_;refine mn ?_;refine qm ?_;refine qm ?_;refine mn ?_;refine mn ?_;refine az.bQ aa (tr (aP (ch aw.Id (q.bs+q.bs) l w.k) (ap aw.Id ((l.drop w.a).take q.bs)) (ap aw.Id ((l.drop w.a).drop q.bs)) [])) rfl (bM (by rw[ik aw.Id hq1,dr aw.Id hq1 (by rw[length_drop];omega)];first|done|simp only[aP,append_nil])) ?_;refine nm ?_;refine sp (aK.bW rfl (by decide) Tryz.call173 rfl (kU (ch aw.Id (q.bs+q.bs) l w.k) (ap aw.Id ((l.drop w.a).take q.bs)) (ap aw.Id ((l.drop w.a).drop q.bs)) [] _ _ _ (by omega) (by omega) (by omega) (by omega) (by omega) (cj _ _) (cj _ _) (by simp only[length_nil];omega)) rfl rfl rfl (ak rfl) rfl rfl) ?_;refine nl ?_;refine AW.region ?_;refine mn ?_;refine qq (Qt.binOp rfl rfl (by first|exact eJ (by omega)|rfl)) ?_;refine qn ?_;have hfin:(ch aw.Id (q.bs+q.bs) l w.k)++ap aw.Id ((ap aw.Id ((l.drop w.a).take q.bs))++(ap aw.Id ((l.drop w.a).drop q.bs)))=(full aw.Id (q.bs+q.bs) l):=by rw[jz,take_append_drop,hful]
   refine⟨⟨q.bs+q.bs,by omega,by omega⟩,ar.aZ ⟨cT (by show _=((q.bs+q.bs:Nat):Int);omega),rfl,rfl,rfl,⟨_,rfl,bM hfin⟩,trivial⟩ rfl rfl,?_⟩;show l.length-(q.bs+q.bs)<l.length-q.bs;omega
  try simp only[ai]at c4
  refine jd (AW.region ?_);refine mn ?_;refine qq (Qt.binOp rfl rfl (by first|exact eJ (by omega)|rfl)) ?_;refine qn ?_;have hfin:(ch aw.Id (q.bs+q.bs) l w.k)++(full aw.Id q.bs (l.drop w.a))=(full aw.Id (q.bs+q.bs) l):=by rw[hful,dr aw.Id hq1 (by omega)]
  refine⟨⟨q.bs+q.bs,by omega,by omega⟩,ar.aZ ⟨cT (by show _=((q.bs+q.bs:Nat):Int);omega),rfl,rfl,rfl,⟨_,rfl,bM hfin⟩,trivial⟩ rfl rfl,?_⟩;show l.length-(q.bs+q.bs)<l.length-q.bs;omega
 try simp only[ai]at c2
 refine AW.exit ?_;dsimp only[aJ,ay,reduceIte];have hf:(full aw.Id q.bs l)=ap aw.Id l:=dr aw.Id hq1 (by omega);rw[←hf];refine⟨.inr rfl,[], .nil,?_⟩;refine⟨λn=>n,rfl,λ_ _=>rfl,nodup_nil,(by simp),?_⟩;intro p hp;cases List.mem_singleton.1 hp;exact aq rfl
theorem nS(l:List aw)(hl:l.length≤100000000):bf Tryz.prog 46 [.h aa [], .f 47 []] [.rt aa .row (tr l)] (cn (.t []) [] [(aa,tr (ap aw.Id l))]):=by
 refine ob Tryz.func46 Tryz.ntmps46 ?_;refine AW.region ?_;refine qm ?_;refine qm ?_;refine qh fB ?_;refine nm ?_;refine qm ?_;refine sp (aK.bW rfl (by decide) Tryz.call121 rfl (mZ l hl) rfl rfl rfl (ak rfl) rfl rfl) ?_;refine nl ?_;refine⟨.inr rfl,[], .nil,?_⟩;refine⟨λn=>n,rfl,λ_ _=>rfl,nodup_nil,(by simp),?_⟩;intro p hp;cases List.mem_singleton.1 hp;exact aq rfl
open Go Go.RowKit Go.Proofs
theorem m6(l:List aw)(hl:l.length≤100000000):bf Tryz.prog 46 [.h aa [], .f 47 []] [.rt aa .row (tr l)] (cn (.t []) [] [(aa,tr (ap aw.Id l))]):=
 nS l hl
open Go Go.RowKit Go.Proofs
def qU(p:aw):aw:=p
theorem pI(p:aw)(U:Nat→Value)(h1:∀c x,c<5→(En.cs p).getD c .j= .v x→U c=x)(h2:∀c n0 l g,c<5→(En.cs p).getD c .j= .s n0 l g→∃a cap,U c= .slice a l cap):∀c,c<5→(En.cs (qU p )).getD c .j= .v (U c):=λc hc=>by
 match c,hc with
 | 0,hc=>rw[h1 0 _ hc rfl];rfl
 | 1,hc=>rw[h1 1 _ hc rfl];rfl
 | 2,hc=>rw[h1 2 _ hc rfl];rfl
 | 3,hc=>rw[h1 3 _ hc rfl];rfl
 | 4,hc=>rw[h1 4 _ hc rfl];rfl
 | c+5,hc=>exact absurd hc (by omega)
def yf:Nat→Option Nat
 | _=>none
def uT(U:Nat→Value):X:= .g [.v (U 0), .v (U 1), .v (U 2), .v (U 3), .v (U 4)]
theorem ox(l:List aw)(p:aw)(hs:l.length≤2000000):bf Tryz.prog 98 [.h aa [], .g [.v (iv p.Id), .v (iv p.Kind), .v (iv p.Target), .v (iv p.mi), .v (iv p.gK)]] [.rt aa .row (tr l)] (cn (.h 0 []) [(0, .row,tr (bO aw.Id l p))] [(aa, .j)]):=by
 have hle:=ka (l.map aw.Id) (aw.Id p);rw[length_map]at hle;have eT:tr (bO aw.Id l p)= .s 5 (l.length+1) λk c=>if k<eN (l.map aw.Id) (aw.Id p)then(En.cs (l.getD k En.ab)).getD c .j else if k=eN (l.map aw.Id) (aw.Id p)then(En.cs p).getD c .j else(En.cs (l.getD (k-1) En.ab)).getD c .j:=by
  show T.s 5 (bO aw.Id l p).length (λk c=>(En.cs ((bO aw.Id l p).getD k En.ab)).getD c .j)=_;rw[fa];congr 1;funext k c;rw[fM];split
  ·rfl
  ·split<;>rfl
 rw[eT];refine lY (gT:=λc=>(En.cs p).getD c .j) (fT:=λk c=>(En.cs (l.getD k En.ab)).getD c .j) yf [] _ (eN (l.map aw.Id) (aw.Id p)) hle uT (λid m t h=>?_) (λid h=>?_) (λc id hc h=>?_) (λc c' id hc hc' h h'=>?_) (λR H w vp h=>?_) λV U h1 h2 h3 h4=>?_
 ·simp[aW]at h
 ·simp at h
 ·cases h
 ·cases h
 ·obtain⟨vs,e,h⟩:=h
  match vs,h with
  | [u0,u1,u2,u3,u4],⟨e0,e1,e2,e3,e4,_⟩=>
  obtain rfl:u0=_:=e0;obtain rfl:u1=_:=e1;obtain rfl:u2=_:=e2;obtain rfl:u3=_:=e3;obtain rfl:u4=_:=e4;refine⟨λc=>[iv p.Id,iv p.Kind,iv p.Target,iv p.mi,iv p.gK].getD c undef,λR' H' w'=>⟨_,e,rfl,rfl,rfl,rfl,rfl,trivial⟩,λc hc=>?_⟩
  match c,hc with
  | 0,_=>exact⟨λ_=>⟨rfl,rfl⟩,λid h=>by cases h⟩
  | 1,_=>exact⟨λ_=>⟨rfl,rfl⟩,λid h=>by cases h⟩
  | 2,_=>exact⟨λ_=>⟨rfl,rfl⟩,λid h=>by cases h⟩
  | 3,_=>exact⟨λ_=>⟨rfl,rfl⟩,λid h=>by cases h⟩
  | 4,_=>exact⟨λ_=>⟨rfl,rfl⟩,λid h=>by cases h⟩
  | c+5,hc=>exact absurd (show c+5<5 from hc) (by omega)
 ·let lp:=(range l.length).map λk=>qU (l.getD k En.ab) ;let pp:=qU p ;have hl:lp.length=l.length:=by simp[lp]
  have hg:∀k,k<l.length→lp.getD k En.ab=qU (l.getD k En.ab):=λk hk=>by
   rw[getD_eq_getElem?_getD,getElem?_map,getElem?_range hk];rfl
  have hcs:∀k c,k<l.length→c<5→(En.cs (lp.getD k En.ab)).getD c .j= .v (V k c):=λk c hk hc=>by
   rw[hg k hk];exact pI _ (V k) (λc x hc=>h1 k c x hk hc) (λc n0 l g hc=>h2 k c n0 l g hk hc) c hc
  have hps:∀c,c<5→(En.cs pp).getD c .j= .v (U c):=pI p U h3 h4;have hkey:lp.map aw.Id=l.map aw.Id:=by
   conv=>rhs;rw[←gq l En.ab]
   rw[map_map,map_map];rfl
  have hc:=rq lp pp (by omega);have hX:uT U= .g [.v (iv pp.Id), .v (iv pp.Kind), .v (iv pp.Target), .v (iv pp.mi), .v (iv pp.gK)]:=by
   unfold uT;rw[←T.v.inj (hps 0 (by omega)),←T.v.inj (hps 1 (by omega)),←T.v.inj (hps 2 (by omega)),←T.v.inj (hps 3 (by omega)),←T.v.inj (hps 4 (by omega))]
  rw[←hX,show tr lp= .s 5 l.length (λk c=>(En.cs (lp.getD k En.ab)).getD c .j)from congrArg (λm=>T.s 5 m λk c=>(En.cs (lp.getD k En.ab)).getD c .j) hl,show tr (bO aw.Id lp pp)= .s 5 (l.length+1) (λk c=>(En.cs ((bO aw.Id lp pp).getD k En.ab)).getD c .j)from congrArg (λm=>T.s 5 m λk c=>(En.cs ((bO aw.Id lp pp).getD k En.ab)).getD c .j) (by rw[fa,hl])]at hc;refine⟨_,_,hcs,λk c hk hc=>?_,hc⟩;rw[fM,hkey,show aw.Id pp=aw.Id p from rfl];split
  ·exact hcs k c (by omega) hc
  ·split
   ·exact hps c hc
   ·exact hcs (k-1) c (by omega) hc
open Go Go.RowKit Go.Proofs
structure aE where
 f0:Int
 xx:Option Addr
 x_:Nat
 w4:Nat
instance:En aE:=⟨2,by omega,λa=>[.v (iv a.f0), .v (.slice a.xx a.x_ a.w4)],λ_=>rfl,λ_=>True,⟨0,none,0,0⟩⟩
@[go_sem] theorem AS(a:aE):En.cs a=[.v (iv a.f0), .v (.slice a.xx a.x_ a.w4)]:=rfl
theorem iY(a b:aE):bf Tryz.prog 50 [.g [.v (iv a.f0), .c], .g [.v (iv b.f0), .c]] [] (λy _=>y= .v (iv (mu (aE.f0 a) (aE.f0 b)))):=by
 refine ob Tryz.func50 Tryz.ntmps50 ?_;refine sr ?_;refine bx ?_;refine nm ?_;refine bx ?_;refine nm ?_;refine fi ?_;refine qq (fA nI) ?_;refine ql aX ?_;refine nm ?_;refine qq (fA nI) ?_;refine ql aX ?_;refine cv Tryz.call48 rfl rfl (j8 _ _) ?_;refine nm ?_;refine qr 4 ?_;rfl
end Go.Proofs.YtekcnnngjoonbaaGreat.VM
