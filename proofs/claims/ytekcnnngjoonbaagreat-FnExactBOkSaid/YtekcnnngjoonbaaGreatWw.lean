/- Contracts. No conditions. -/
import Derived.Test.YtekcnnngjoonbaaGreatWq
import Derived.Test.YtekcnnngjoonbaaGreatWs
import Derived.Test.YtekcnnngjoonbaaGreatWv
set_option linter.all false
set_option maxHeartbeats 8000000
set_option maxRecDepth 10000
namespace Go.Proofs.YtekcnnngjoonbaaGreat.VM
open List Nat
open Go Go.RowKit Go.Proofs
theorem kN(P X S:List aB)(xa xb:Int)(hxa:xa=(P.length:Nat))(hxb:xb=(P.length+X.length:Nat))(hl:(P++(X++S)).length≤4611686018427387904):bf Tryz.prog 170 [.h aa [], .v (iv xa), .v (iv xb), .f 45 []] [.rt aa .row (tr (P++(X++S)))] (cn (.t []) [] [(aa,tr (P++(ap aB.f0 X++S)))]):=by
 subst hxa hxb;exact qj P X S _ _ rfl rfl hl
theorem o9(P X:List aB)(xa xb:Int)(hxa:xa=(P.length:Nat))(hxb:xb=(P.length+X.length:Nat))(hl:(P++X).length≤4611686018427387904):bf Tryz.prog 170 [.h aa [], .v (iv xa), .v (iv xb), .f 45 []] [.rt aa .row (tr (P++X))] (cn (.t []) [] [(aa,tr (P++ap aB.f0 X))]):=by
 have h:=kN P X [] xa xb hxa hxb (by rw[append_nil];exact hl)
 rwa [append_nil,append_nil]at h
theorem lP:∀n,pz n
 | 0=>λP X Y S xa xm xb _ _ _ h hx=>absurd h (by omega)
 | n+1=>λP X Y S xa xm xb ha hm hb h hx hy hX hY hl=>by
  subst ha hm hb;exact pg n (lP n) P X Y S _ _ _ rfl rfl rfl h hx hy hX hY hl
theorem kR(P X Y S:List aB)(xa xm xb:Int)(ha:xa=(P.length:Nat))(hm:xm=(P.length+X.length:Nat))(hb:xb=(P.length+X.length+Y.length:Nat))(hx:0<X.length)(hy:0<Y.length)(hX:gl aB.f0 X)(hY:gl aB.f0 Y)(hl:P.length+X.length+Y.length+S.length≤2305843009213693952):bf Tryz.prog 171 [.h aa [], .v (iv xa), .v (iv xm), .v (iv xb), .f 45 []] [.rt aa .row (tr (aP P X Y S))] (cn (.t []) [] [(aa,tr (P++(ap aB.f0 (X++Y)++S)))]):=
 lP (X.length+Y.length) P X Y S xa xm xb ha hm hb (Nat.le_refl _) hx hy hX hY hl
theorem mX(l:List aB)(hl:l.length≤100000000):bf Tryz.prog 120 [.h aa [], .v (iv l.length), .f 45 []] [.rt aa .row (tr l)] (cn (.t []) [] [(aa,tr (ap aB.f0 l))]):=by
 refine ob Tryz.func120 Tryz.ntmps120 ?_;refine sr ?_;refine fi ?_;refine qm ?_;refine qa ?_;refine nm ?_;refine qn ?_;refine AW.seq (AW.block ?_);refine AW.bc (L':=[.sl 6 (.v (iv 20)), .sl 7 (.v (iv (0:Nat))), .sl 8 (.v (iv (0+20:Nat))), .sl 0 (.h aa []), .sl 1 (.v (iv (l.length:Nat))), .sl 2 (.f 45 []), .rt aa .row (tr ((ch aB.f0 20 l 0)++l.drop 0))]) (ar.aZ ⟨rfl,rfl,rfl,rfl,rfl,rfl,⟨_,rfl,(by rw[drop_zero];exact au)⟩,trivial⟩ rfl rfl) ?_;refine AW.loop (λi:BI 20 l.length=>[.sl 6 (.v (iv 20)), .sl 7 (.v (iv (i.a:Nat))), .sl 8 (.v (iv (i.a+20:Nat))), .sl 0 (.h aa []), .sl 1 (.v (iv (l.length:Nat))), .sl 2 (.f 45 []), .rt aa .row (tr ((ch aB.f0 20 l i.k)++l.drop i.a))]) (λi=>l.length-i.a) ⟨0,0,rfl,zero_le _⟩ ?_;intro i;have hia:=i.le;have hib:=fP aB.f0 i;have hid:(l.drop i.a).length=l.length-i.a:=length_drop;refine bP ?_;refine qm ?_;refine mn ?_;refine qb ?_;refine nc (λc1=>?_) λc1=>?_
 ·try simp only[ai]at c1
  refine jd (AW.block (sr ?_));refine qm ?_;refine mn ?_;refine qm ?_;refine mn ?_;refine az.bQ aa (tr ((ch aB.f0 20 l i.k)++((l.drop i.a).take 20++l.drop (i.a+20)))) rfl (bM (by rw[←drop_drop,take_append_drop])) ?_;refine nm ?_;refine sp (aK.bW rfl (by decide) Tryz.call170 rfl (kN (ch aB.f0 20 l i.k) ((l.drop i.a).take 20) (l.drop (i.a+20)) _ _ (by omega) (by rw[length_take];omega) (by simp only[length_append,length_take,length_drop];omega)) rfl rfl rfl (ak rfl) rfl rfl) ?_;refine ns ?_;refine mn ?_;refine qn ?_;refine AW.region ?_;refine qm ?_;refine mn ?_;refine ba ?_;refine qn ?_;refine⟨⟨i.k+1,i.a+20,i.next,by omega⟩,ar.aZ ⟨rfl,rfl,cT (by show _=((i.a+20+20:Nat):Int);omega),rfl,rfl,rfl,⟨_,rfl,bM (by rw[cA aB.f0 i,append_assoc])⟩,trivial⟩ rfl rfl,?_⟩;show l.length-(i.a+20)<l.length-i.a;omega
 try simp only[ai]at c1
 refine AW.exit ?_;dsimp only[aJ,ay,reduceIte];refine sr ?_;refine mn ?_;refine qm ?_;refine qm ?_;refine mn ?_;refine sp (aK.bW rfl (by decide) Tryz.call170 rfl (o9 (ch aB.f0 20 l i.k) (l.drop i.a) _ _ (by omega) (by omega) (by rw[length_append];omega)) rfl rfl rfl (ak rfl) rfl rfl) ?_;have hin:=i.next;refine nm ?_;refine az.bQ aa (tr (full aB.f0 20 l)) rfl (bM (by rw[←eh aB.f0 (k:=i.k+1) (by omega) (by omega),cA aB.f0 i,take_of_length_le (by omega)])) ?_;refine nl ?_;refine AW.block ?_;refine AW.bc (L':=[.sl 6 (.v (iv (20:Nat))), .sl 0 (.h aa []), .sl 1 (.v (iv (l.length:Nat))), .sl 2 (.f 45 []), .rt aa .row (tr (full aB.f0 20 l))]) (ar.aZ ⟨rfl,rfl,rfl,rfl,Rf rfl,trivial⟩ rfl rfl) ?_;refine AW.loop (λq:QI l.length=>[.sl 6 (.v (iv (q.bs:Nat))), .sl 0 (.h aa []), .sl 1 (.v (iv (l.length:Nat))), .sl 2 (.f 45 []), .rt aa .row (tr (full aB.f0 q.bs l))]) (λq=>l.length-q.bs) ⟨20,by omega,by omega⟩ ?_;intro q;have hq1:=q.h1;have hq2:=q.h2;refine bP ?_;refine mn ?_;refine qm ?_;refine qb ?_;refine nc (λc2=>?_) λc2=>?_
 ·try simp only[ai]at c2
  refine jd (AW.block (sr ?_));refine mn ?_;refine qq (Qt.binOp rfl rfl (by first|exact eJ (by omega)|rfl)) ?_;refine qa ?_;refine qn ?_;refine AW.seq (AW.block ?_);refine AW.bc (L':=[.sl 6 (.v (iv (q.bs:Nat))), .sl 7 (.v (iv (0:Nat))), .sl 8 (.v (iv (0+(q.bs+q.bs):Nat))), .sl 0 (.h aa []), .sl 1 (.v (iv (l.length:Nat))), .sl 2 (.f 45 []), .rt aa .row (tr ((ch aB.f0 (q.bs+q.bs) l 0)++(full aB.f0 q.bs (l.drop 0))))]) (ar.aZ ⟨rfl,rfl,cT (by omega),rfl,rfl,rfl,⟨_,rfl,bM (by rw[drop_zero];rfl)⟩,trivial⟩ rfl rfl) ?_;refine AW.loop (λw:BI (q.bs+q.bs) l.length=>[.sl 6 (.v (iv (q.bs:Nat))), .sl 7 (.v (iv (w.a:Nat))), .sl 8 (.v (iv (w.a+(q.bs+q.bs):Nat))), .sl 0 (.h aa []), .sl 1 (.v (iv (l.length:Nat))), .sl 2 (.f 45 []), .rt aa .row (tr ((ch aB.f0 (q.bs+q.bs) l w.k)++(full aB.f0 q.bs (l.drop w.a))))]) (λw=>l.length-w.a) ⟨0,0,by simp,zero_le _⟩ ?_;intro w;have hwa:=w.le;have hwb:=fP aB.f0 w;have hwd:(l.drop w.a).length=l.length-w.a:=length_drop;refine bP ?_;refine mn ?_;refine qm ?_;refine qb ?_;refine nc (λc3=>?_) λc3=>?_
  ·try simp only[ai]at c3
   have n1:(ap aB.f0 ((l.drop w.a).take q.bs)).length=q.bs:=(by simp only[aT,length_take,length_drop]<;>omega)
   have n2:(ap aB.f0 (((l.drop w.a).drop q.bs).take q.bs)).length=q.bs:=(by simp only[aT,length_take,length_drop]<;>omega)
   have n3:(full aB.f0 q.bs ((l.drop w.a).drop (q.bs+q.bs))).length=l.length-w.a-(q.bs+q.bs):=by rw[lM aB.f0 hq1,length_drop];omega
   refine jd (AW.block (sr ?_));refine mn ?_;refine qm ?_;refine qm ?_;refine mn ?_;refine ba ?_;refine qm ?_;refine mn ?_;refine az.bQ aa (tr (aP (ch aB.f0 (q.bs+q.bs) l w.k) (ap aB.f0 ((l.drop w.a).take q.bs)) (ap aB.f0 (((l.drop w.a).drop q.bs).take q.bs)) (full aB.f0 q.bs ((l.drop w.a).drop (q.bs+q.bs))))) rfl (bM (by rw[l5 aB.f0 hq1];rfl)) ?_;refine nm ?_;refine sp (aK.bW rfl (by decide) Tryz.call171 rfl (kR (ch aB.f0 (q.bs+q.bs) l w.k) (ap aB.f0 ((l.drop w.a).take q.bs)) (ap aB.f0 (((l.drop w.a).drop q.bs).take q.bs)) (full aB.f0 q.bs ((l.drop w.a).drop (q.bs+q.bs))) _ _ _ (by omega) (by omega) (by omega) (by omega) (by omega) (cj _ _) (cj _ _) (by omega)) rfl rfl rfl (ak rfl) rfl rfl) ?_;refine ns ?_;refine mn ?_;refine qn ?_;refine AW.region ?_;refine qm ?_;refine mn ?_;refine qq (Qt.binOp rfl rfl (by first|exact eJ (by omega)|rfl)) ?_;refine ba ?_;refine qn ?_;refine⟨⟨w.k+1,w.a+(q.bs+q.bs),w.next,by omega⟩,ar.aZ ⟨rfl,rfl,cT (by show _=((w.a+(q.bs+q.bs)+(q.bs+q.bs):Nat):Int);omega),rfl,rfl,rfl,⟨_,rfl,bM (by rw[kH,cA aB.f0 w,append_assoc,drop_drop])⟩,trivial⟩ rfl rfl,?_⟩;show l.length-(w.a+(q.bs+q.bs))<l.length-w.a;omega
  try simp only[ai]at c3
  have hwn:=w.next;have hful:(full aB.f0 (q.bs+q.bs) l)=(ch aB.f0 (q.bs+q.bs) l w.k)++ap aB.f0 (l.drop w.a):=by
   rw[←eh aB.f0 (k:=w.k+1) (by omega) (by omega),cA aB.f0 w,take_of_length_le (by omega)]
  refine AW.exit ?_;dsimp only[aJ,ay,reduceIte];refine bP ?_;refine mn ?_;refine qm ?_;refine ba ?_;refine fi ?_;refine mn ?_;refine qm ?_;refine qb ?_;refine nc (λc4=>?_) λc4=>?_
  ·try simp only[ai]at c4
   have n1:(ap aB.f0 ((l.drop w.a).take q.bs)).length=q.bs:=(by simp only[aT,length_take,length_drop]<;>omega)
   have n2:(ap aB.f0 ((l.drop w.a).drop q.bs)).length=l.length-w.a-q.bs:=(by simp only[aT,length_take,length_drop]<;>omega)
   refine AW.region ?_;refine mn ?_;refine qm ?_;refine qm ?_;refine mn ?_;refine mn ?_;refine az.bQ aa (tr (aP (ch aB.f0 (q.bs+q.bs) l w.k) (ap aB.f0 ((l.drop w.a).take q.bs)) (ap aB.f0 ((l.drop w.a).drop q.bs)) [])) rfl (bM (by rw[ik aB.f0 hq1,dr aB.f0 hq1 (by rw[length_drop];omega)];first|done|simp only[aP,append_nil])) ?_;refine nm ?_;refine sp (aK.bW rfl (by decide) Tryz.call171 rfl (kR (ch aB.f0 (q.bs+q.bs) l w.k) (ap aB.f0 ((l.drop w.a).take q.bs)) (ap aB.f0 ((l.drop w.a).drop q.bs)) [] _ _ _ (by omega) (by omega) (by omega) (by omega) (by omega) (cj _ _) (cj _ _) (by simp only[length_nil];omega)) rfl rfl rfl (ak rfl) rfl rfl) ?_;refine nl ?_;refine AW.region ?_;refine mn ?_;refine qq (Qt.binOp rfl rfl (by first|exact eJ (by omega)|rfl)) ?_;refine qn ?_;have hfin:(ch aB.f0 (q.bs+q.bs) l w.k)++ap aB.f0 ((ap aB.f0 ((l.drop w.a).take q.bs))++(ap aB.f0 ((l.drop w.a).drop q.bs)))=(full aB.f0 (q.bs+q.bs) l):=by rw[jz,take_append_drop,hful]
   refine⟨⟨q.bs+q.bs,by omega,by omega⟩,ar.aZ ⟨cT (by show _=((q.bs+q.bs:Nat):Int);omega),rfl,rfl,rfl,⟨_,rfl,bM hfin⟩,trivial⟩ rfl rfl,?_⟩;show l.length-(q.bs+q.bs)<l.length-q.bs;omega
  try simp only[ai]at c4
  refine jd (AW.region ?_);refine mn ?_;refine qq (Qt.binOp rfl rfl (by first|exact eJ (by omega)|rfl)) ?_;refine qn ?_;have hfin:(ch aB.f0 (q.bs+q.bs) l w.k)++(full aB.f0 q.bs (l.drop w.a))=(full aB.f0 (q.bs+q.bs) l):=by rw[hful,dr aB.f0 hq1 (by omega)]
  refine⟨⟨q.bs+q.bs,by omega,by omega⟩,ar.aZ ⟨cT (by show _=((q.bs+q.bs:Nat):Int);omega),rfl,rfl,rfl,⟨_,rfl,bM hfin⟩,trivial⟩ rfl rfl,?_⟩;show l.length-(q.bs+q.bs)<l.length-q.bs;omega
 try simp only[ai]at c2
 refine AW.exit ?_;dsimp only[aJ,ay,reduceIte];have hf:(full aB.f0 q.bs l)=ap aB.f0 l:=dr aB.f0 hq1 (by omega);rw[←hf];refine⟨.inr rfl,[], .nil,?_⟩;refine⟨λn=>n,rfl,λ_ _=>rfl,nodup_nil,(by simp),?_⟩;intro p hp;cases List.mem_singleton.1 hp;exact aq rfl
theorem oS(l:List aB)(hl:l.length≤100000000):bf Tryz.prog 44 [.h aa [], .f 45 []] [.rt aa .row (tr l)] (cn (.t []) [] [(aa,tr (ap aB.f0 l))]):=by
 refine ob Tryz.func44 Tryz.ntmps44 ?_;refine AW.region ?_;refine qm ?_;refine qm ?_;refine qh fy ?_;refine nm ?_;refine qm ?_;refine sp (aK.bW rfl (by decide) Tryz.call120 rfl (mX l hl) rfl rfl rfl (ak rfl) rfl rfl) ?_;refine nl ?_;refine⟨.inr rfl,[], .nil,?_⟩;refine⟨λn=>n,rfl,λ_ _=>rfl,nodup_nil,(by simp),?_⟩;intro p hp;cases List.mem_singleton.1 hp;exact aq rfl
open Go Go.RowKit Go.Proofs
def k9:Value→Option Addr×Nat×Nat
 | .slice a l c=>(a,l,c)
 | _=>(none,0,0)
def gu(p:bG)(r5 r6 r7:Value):aB:=⟨p.fc,p.b_,p.State,p.ft,p.d_.Pc,(k9 r5).1,(k9 r5).2.1,(k9 r5).2.2,(k9 r6).1,(k9 r6).2.1,(k9 r6).2.2,(k9 r7).1,(k9 r7).2.1,(k9 r7).2.2,p.di,p.Code⟩
theorem m4(l:List bG)(hl:l.length≤100000000):bf Tryz.prog 44 [.h aa [], .f 45 []] [.rt aa .row (tr l)] (cn (.t []) [] [(aa,tr (ap bG.fc l))]):=
 nY bG.fc aB.f0 rfl rfl l (λV h1 h2 h3=>by
  have hg:∀k,k<l.length→((range l.length).map λk=>gu (l.getD k En.ab) (V k 5) (V k 6) (V k 7)).getD k En.ab=gu (l.getD k En.ab) (V k 5) (V k 6) (V k 7):=λk hk=>by
   rw[getD_eq_getElem?_getD,getElem?_map,getElem?_range hk];rfl
  refine⟨(range l.length).map λk=>gu (l.getD k En.ab) (V k 5) (V k 6) (V k 7),by simp,λk c hk hc=>?_,λk hk=>by rw[hg k hk];rfl⟩;rw[hg k hk]
  match c,hc with
  | 0,hc=>rw[h2 k 0 _ hk hc rfl];rfl
  | 1,hc=>rw[h2 k 1 _ hk hc rfl];rfl
  | 2,hc=>rw[h2 k 2 _ hk hc rfl];rfl
  | 3,hc=>rw[h2 k 3 _ hk hc rfl];rfl
  | 4,hc=>rw[h2 k 4 _ hk hc rfl];rfl
  | 5,hc=>obtain⟨a,cap,e⟩:=h3 k 5 _ _ _ hk hc rfl;rw[e];simp only[gu,e];rfl
  | 6,hc=>obtain⟨a,cap,e⟩:=h3 k 6 _ _ _ hk hc rfl;rw[e];simp only[gu,e];rfl
  | 7,hc=>obtain⟨a,cap,e⟩:=h3 k 7 _ _ _ hk hc rfl;rw[e];simp only[gu,e];rfl
  | 8,hc=>rw[h2 k 8 _ hk hc rfl];rfl
  | 9,hc=>rw[h2 k 9 _ hk hc rfl];rfl
  | c+10,hc=>exact absurd hc (by show ¬c+10<10;omega)) λlp hlp=>oS lp (by omega)
open Go Go.RowKit Go.Proofs
theorem pU(p:bG)(U:Nat→Value)(h1:∀c x,c<10→(En.cs p).getD c .j= .v x→U c=x)(h2:∀c n0 l g,c<10→(En.cs p).getD c .j= .s n0 l g→∃a cap,U c= .slice a l cap):∀c,c<10→(En.cs (gu p (U 5) (U 6) (U 7))).getD c .j= .v (U c):=λc hc=>by
 match c,hc with
 | 0,hc=>rw[h1 0 _ hc rfl];rfl
 | 1,hc=>rw[h1 1 _ hc rfl];rfl
 | 2,hc=>rw[h1 2 _ hc rfl];rfl
 | 3,hc=>rw[h1 3 _ hc rfl];rfl
 | 4,hc=>rw[h1 4 _ hc rfl];rfl
 | 5,hc=>obtain⟨a,cap,e⟩:=h2 5 _ _ _ hc rfl;rw[e];simp only[gu,e];rfl
 | 6,hc=>obtain⟨a,cap,e⟩:=h2 6 _ _ _ hc rfl;rw[e];simp only[gu,e];rfl
 | 7,hc=>obtain⟨a,cap,e⟩:=h2 7 _ _ _ hc rfl;rw[e];simp only[gu,e];rfl
 | 8,hc=>rw[h1 8 _ hc rfl];rfl
 | 9,hc=>rw[h1 9 _ hc rfl];rfl
 | c+10,hc=>exact absurd hc (by omega)
def jH:Nat→Option Nat
 | 5=>some (aa+1)
 | 6=>some (aa+2)
 | 7=>some (aa+3)
 | _=>none
def uN(U:Nat→Value):X:= .g [.v (U 0), .v (U 1), .v (U 2), .v (U 3), .v (U 4), .v (U 5), .v (U 6), .v (U 7), .v (U 8), .v (U 9)]
theorem ou(l:List bG)(p:bG)(hs:l.length≤2000000):bf Tryz.prog 96 [.h aa [], .g [.v (iv p.fc), .v (iv p.b_), .v (iv p.State), .v (iv p.ft), .v (iv p.d_.Pc), .h (aa+1) [], .h (aa+2) [], .h (aa+3) [], .v (iv p.di), .v (iv p.Code)]] [.rt aa .row (tr l), .rt (aa+1) .row (tr p.d_.cy), .rt (aa+2) .row (tr p.Mem), .rt (aa+3) .row (tr p.cV)] (cn (.h 0 []) [(0, .row,tr (bO bG.fc l p))] [(aa, .j),(aa+1, .j),(aa+2, .j),(aa+3, .j)]):=by
 have hle:=ka (l.map bG.fc) (bG.fc p);rw[length_map]at hle;have eT:tr (bO bG.fc l p)= .s 10 (l.length+1) λk c=>if k<eN (l.map bG.fc) (bG.fc p)then(En.cs (l.getD k En.ab)).getD c .j else if k=eN (l.map bG.fc) (bG.fc p)then(En.cs p).getD c .j else(En.cs (l.getD (k-1) En.ab)).getD c .j:=by
  show T.s 10 (bO bG.fc l p).length (λk c=>(En.cs ((bO bG.fc l p).getD k En.ab)).getD c .j)=_;rw[fa];congr 1;funext k c;rw[fM];split
  ·rfl
  ·split<;>rfl
 rw[eT];refine lY (gT:=λc=>(En.cs p).getD c .j) (fT:=λk c=>(En.cs (l.getD k En.ab)).getD c .j) jH [aa+1,aa+2,aa+3] _ (eN (l.map bG.fc) (bG.fc p)) hle uN (λid m t h=>?_) (λid h=>?_) (λc id hc h=>?_) (λc c' id hc hc' h h'=>?_) (λR H w vp h=>?_) λV U h1 h2 h3 h4=>?_
 ·simp only[aW,mem_cons,not_mem_nil,or_false,E.rt.injEq]at h;rcases h with⟨rfl,_⟩|⟨rfl,_⟩|⟨rfl,_⟩<;>omega
 ·simp only[mem_cons,not_mem_nil,or_false]at h;rcases h with rfl|rfl|rfl
  ·exact⟨by omega,_,mem_cons_self ..⟩
  ·exact⟨by omega,_,mem_cons_of_mem _ (mem_cons_self ..)⟩
  ·exact⟨by omega,_,mem_cons_of_mem _ (mem_cons_of_mem _ (mem_cons_self ..))⟩
 ·match c,hc,h with
  | 5,_,h=>cases h;exact mem_cons_self ..
  | 6,_,h=>cases h;exact mem_cons_of_mem _ (mem_cons_self ..)
  | 7,_,h=>cases h;exact mem_cons_of_mem _ (mem_cons_of_mem _ (mem_cons_self ..))
 ·match c,c',h,h' with
  | 5,5,_,_=>rfl
  | 6,6,_,_=>rfl
  | 7,7,_,_=>rfl
  | 5,6,h,h'=>cases h;simp[jH]at h'
  | 5,7,h,h'=>cases h;simp[jH]at h'
  | 6,5,h,h'=>cases h;simp[jH]at h'
  | 6,7,h,h'=>cases h;simp[jH]at h'
  | 7,5,h,h'=>cases h;simp[jH]at h'
  | 7,6,h,h'=>cases h;simp[jH]at h'
 ·obtain⟨vs,e,h⟩:=h
  match vs,h with
  | [u0,u1,u2,u3,u4,u5,u6,u7,u8,u9],⟨e0,e1,e2,e3,e4,⟨_,_,_,_,_,q5⟩,⟨_,_,_,_,_,q6⟩,⟨_,_,_,_,_,q7⟩,e8,e9,_⟩=>
  simp only[hd,Option.some.injEq]at q5 q6 q7;obtain rfl:u0=_:=e0;obtain rfl:u1=_:=e1;obtain rfl:u2=_:=e2;obtain rfl:u3=_:=e3;obtain rfl:u4=_:=e4;obtain rfl:u8=_:=e8;obtain rfl:u9=_:=e9;refine⟨λc=>[iv p.fc,iv p.b_,iv p.State,iv p.ft,iv p.d_.Pc,u5,u6,u7,iv p.di,iv p.Code].getD c undef,λR' H' w'=>⟨_,e,rfl,rfl,rfl,rfl,rfl,rfl,rfl,rfl,rfl,rfl,trivial⟩,λc hc=>?_⟩
  match c,hc with
  | 0,_=>exact⟨λ_=>⟨rfl,rfl⟩,λid h=>by cases h⟩
  | 1,_=>exact⟨λ_=>⟨rfl,rfl⟩,λid h=>by cases h⟩
  | 2,_=>exact⟨λ_=>⟨rfl,rfl⟩,λid h=>by cases h⟩
  | 3,_=>exact⟨λ_=>⟨rfl,rfl⟩,λid h=>by cases h⟩
  | 4,_=>exact⟨λ_=>⟨rfl,rfl⟩,λid h=>by cases h⟩
  | 5,_=>exact⟨λh=>(by cases h),λid h=>by cases h;exact q5.symm⟩
  | 6,_=>exact⟨λh=>(by cases h),λid h=>by cases h;exact q6.symm⟩
  | 7,_=>exact⟨λh=>(by cases h),λid h=>by cases h;exact q7.symm⟩
  | 8,_=>exact⟨λ_=>⟨rfl,rfl⟩,λid h=>by cases h⟩
  | 9,_=>exact⟨λ_=>⟨rfl,rfl⟩,λid h=>by cases h⟩
  | c+10,hc=>exact absurd (show c+10<10 from hc) (by omega)
 ·let lp:=(range l.length).map λk=>gu (l.getD k En.ab) (V k 5) (V k 6) (V k 7);let pp:=gu p (U 5) (U 6) (U 7);have hl:lp.length=l.length:=by simp[lp]
  have hg:∀k,k<l.length→lp.getD k En.ab=gu (l.getD k En.ab) (V k 5) (V k 6) (V k 7):=λk hk=>by
   rw[getD_eq_getElem?_getD,getElem?_map,getElem?_range hk];rfl
  have hcs:∀k c,k<l.length→c<10→(En.cs (lp.getD k En.ab)).getD c .j= .v (V k c):=λk c hk hc=>by
   rw[hg k hk];exact pU _ (V k) (λc x hc=>h1 k c x hk hc) (λc n0 l g hc=>h2 k c n0 l g hk hc) c hc
  have hps:∀c,c<10→(En.cs pp).getD c .j= .v (U c):=pU p U h3 h4;have hkey:lp.map aB.f0=l.map bG.fc:=by
   conv=>rhs;rw[←gq l En.ab]
   rw[map_map,map_map];rfl
  have hc:=ri lp pp (by omega);have hX:uN U= .g [.v (iv pp.f0), .v (iv pp.f1), .v (iv pp.f2), .v (iv pp.f3), .v (iv pp.f4), .v (.slice pp.AZ pp.AU pp.Ba), .v (.slice pp.Bd pp.AQ pp.As), .v (.slice pp.AH pp.AG pp.A5), .v (iv pp.f8), .v (iv pp.f9)]:=by
   unfold uN;rw[←T.v.inj (hps 0 (by omega)),←T.v.inj (hps 1 (by omega)),←T.v.inj (hps 2 (by omega)),←T.v.inj (hps 3 (by omega)),←T.v.inj (hps 4 (by omega)),←T.v.inj (hps 5 (by omega)),←T.v.inj (hps 6 (by omega)),←T.v.inj (hps 7 (by omega)),←T.v.inj (hps 8 (by omega)),←T.v.inj (hps 9 (by omega))]
  rw[←hX,show tr lp= .s 10 l.length (λk c=>(En.cs (lp.getD k En.ab)).getD c .j)from congrArg (λm=>T.s 10 m λk c=>(En.cs (lp.getD k En.ab)).getD c .j) hl,show tr (bO aB.f0 lp pp)= .s 10 (l.length+1) (λk c=>(En.cs ((bO aB.f0 lp pp).getD k En.ab)).getD c .j)from congrArg (λm=>T.s 10 m λk c=>(En.cs ((bO aB.f0 lp pp).getD k En.ab)).getD c .j) (by rw[fa,hl])]at hc;refine⟨_,_,hcs,λk c hk hc=>?_,hc⟩;rw[fM,hkey,show aB.f0 pp=bG.fc p from rfl];split
  ·exact hcs k c (by omega) hc
  ·split
   ·exact hps c hc
   ·exact hcs (k-1) c (by omega) hc
open Go Go.RowKit Go.Proofs
theorem j8(a b:Int):bf Tryz.prog 48 [.v (iv a), .v (iv b)] [] (λy _=>y= .v (iv (mu a b))):=by
 refine ob Tryz.func48 Tryz.ntmps48 ?_;refine sr ?_;refine qn ?_;refine AW.seq (AW.block (sr ?_));refine qm ?_;refine mn ?_;refine qb ?_;refine qn ?_;refine cd (λc1=>?_) λc1=>?_
 ·try simp only[ai]at c1
  refine sr ?_;refine qr 4 ?_;rw[show mu a b= -1 from if_pos (by omega)];rfl
 try simp only[ai]at c1
 refine sr ?_;refine mn ?_;refine qm ?_;refine qb ?_;refine qn ?_;refine cd (λc2=>?_) λc2=>?_
 ·try simp only[ai]at c2
  refine sr ?_;refine qr 4 ?_;rw[show mu a b=1 from(if_neg (by omega)).trans (if_pos (by omega))];rfl
 try simp only[ai]at c2
 refine jd (sr ?_);refine qr 4 ?_;rw[show mu a b=0 from(if_neg (by omega)).trans (if_neg (by omega))];rfl
theorem iQ(a b:aw):bf Tryz.prog 47 [.g [.v (iv a.Id), .v (iv a.Kind), .v (iv a.Target), .v (iv a.mi), .v (iv a.gK)], .g [.v (iv b.Id), .v (iv b.Kind), .v (iv b.Target), .v (iv b.mi), .v (iv b.gK)]] [] (λy _=>y= .v (iv (mu (aw.Id a) (aw.Id b)))):=by
 refine ob Tryz.func47 Tryz.ntmps47 ?_;refine sr ?_;refine bx ?_;refine nm ?_;refine bx ?_;refine nm ?_;refine fi ?_;refine qq (fA n7) ?_;refine ql aX ?_;refine nm ?_;refine qq (fA n7) ?_;refine ql aX ?_;refine cv Tryz.call48 rfl rfl (j8 _ _) ?_;refine nm ?_;refine qr 4 ?_;rfl
end Go.Proofs.YtekcnnngjoonbaaGreat.VM
