/- Contracts. No conditions. -/
import Derived.Test.YtekcnnngjoonbaaGreatWB
import Derived.Test.YtekcnnngjoonbaaGreatWD
import Derived.Test.YtekcnnngjoonbaaGreatWz
set_option linter.all false
set_option maxHeartbeats 8000000
set_option maxRecDepth 10000
namespace Go.Proofs.YtekcnnngjoonbaaGreat.VM
open List Nat
open Go Go.RowKit Go.Proofs Go.Proofs.Tryz
theorem la(P X S:List aF)(xa xb:Int)(hxa:xa=(P.length:Nat))(hxb:xb=(P.length+X.length:Nat))(hl:(P++(X++S)).length≤4611686018427387904):a_ prog 170 [.h aa [],.v (iv xa),.v (iv xb),.f 45 []] [.rt aa .row (tr (P++(X++S)))] (ch (.t []) [] [(aa,tr (P++(ap aF.f0 X++S)))]):=by
 subst hxa hxb;exact q9 P X S _ _ rfl rfl hl
theorem pJ(P X:List aF)(xa xb:Int)(hxa:xa=(P.length:Nat))(hxb:xb=(P.length+X.length:Nat))(hl:(P++X).length≤4611686018427387904):a_ prog 170 [.h aa [],.v (iv xa),.v (iv xb),.f 45 []] [.rt aa .row (tr (P++X))] (ch (.t []) [] [(aa,tr (P++ap aF.f0 X))]):=by
 have h:=la P X [] xa xb hxa hxb (by rw[append_nil];exact hl)
 rwa [append_nil,append_nil]at h
theorem mm:∀n,qu n
 | 0=>λP X Y S xa xm xb _ _ _ h hx=>absurd h (by omega)
 | n+1=>λP X Y S xa xm xb ha hm hb h hx hy hX hY hl=>by
  subst ha hm hb;exact pH n (mm n) P X Y S _ _ _ rfl rfl rfl h hx hy hX hY hl
theorem kU(P X Y S:List aF)(xa xm xb:Int)(ha:xa=(P.length:Nat))(hm:xm=(P.length+X.length:Nat))(hb:xb=(P.length+X.length+Y.length:Nat))(hx:0<X.length)(hy:0<Y.length)(hX:fS aF.f0 X)(hY:fS aF.f0 Y)(hl:P.length+X.length+Y.length+S.length≤2305843009213693952):a_ prog 171 [.h aa [],.v (iv xa),.v (iv xm),.v (iv xb),.f 45 []] [.rt aa .row (tr (aV P X Y S))] (ch (.t []) [] [(aa,tr (P++(ap aF.f0 (X++Y)++S)))]):=
 mm (X.length+Y.length) P X Y S xa xm xb ha hm hb (Nat.le_refl _) hx hy hX hY hl
theorem nG(l:List aF)(hl:l.length≤100000000):a_ prog 120 [.h aa [],.v (iv l.length),.f 45 []] [.rt aa .row (tr l)] (ch (.t []) [] [(aa,tr (ap aF.f0 l))]):=by
 refine ob func120 ntmps120 ?_;refine go [.R,.a,.Z,.R,.m,.a,.N,.a,.Z] ?_;refine AW.seq (AW.block ?_);refine AW.aL (λi:BI 20 l.length=>[.sl 6 (.v (iv 20)),.sl 7 (.v (iv (i.a:Nat))),.sl 8 (.v (iv (i.a+20:Nat))),.sl 0 (.h aa []),.sl 1 (.v (iv (l.length:Nat))),.sl 2 (.f 45 []),.rt aa .row (tr ((cu aF.f0 20 l i.k)++l.drop i.a))]) (λi=>l.length-i.a) ⟨0,0,rfl,zero_le _⟩ (ar.bb ⟨rfl,rfl,rfl,rfl,rfl,rfl,⟨_,rfl,(by rw[drop_zero];exact aw)⟩,trivial⟩ rfl rfl) ?_;intro i;have hia:=i.le;have hib:=fH aF.f0 i;have hid:(l.drop i.a).length=l.length-i.a:=length_drop;refine go [.R2,.m,.m,.N,.b,.Z] ?_;refine cd (λc1=>?_) λc1=>?_
 ·try simp only[ah]at c1
  refine jd (AW.block (sr ?_));refine go [.m,.m,.N,.m,.m,.N] ?_;refine aB.bB aa (tr ((cu aF.f0 20 l i.k)++((l.drop i.a).take 20++l.drop (i.a+20)))) rfl (bJ (by rw[←drop_drop,take_append_drop])) ?_;refine go [.N] ?_;refine sp (aE.bW rfl (by decide) call170 rfl (la (cu aF.f0 20 l i.k) ((l.drop i.a).take 20) (l.drop (i.a+20)) _ _ (by omega) (by rw[length_take];omega) (by simp only[length_append,length_take,length_drop];omega)) rfl rfl rfl (aj rfl) rfl rfl) ?_;refine go [.Z,.R,.m,.N,.a,.Z,.R1,.m,.m,.N,.b,.a,.Z] ?_;refine⟨⟨i.k+1,i.a+20,i.next,by omega⟩,ar.bb ⟨rfl,rfl,cT (by show _=((i.a+20+20:Nat):Int);omega),rfl,rfl,rfl,⟨_,rfl,bJ (by rw[cz aF.f0 i,append_assoc])⟩,trivial⟩ rfl rfl,?_⟩;dsimp only;omega
 try simp only[ah]at c1
 refine AW.exit ?_;dsimp only[aD,au,reduceIte];refine go [.R,.m,.N,.m,.m,.m,.N] ?_;refine sp (aE.bW rfl (by decide) call170 rfl (pJ (cu aF.f0 20 l i.k) (l.drop i.a) _ _ (by omega) (by omega) (by rw[length_append];omega)) rfl rfl rfl (aj rfl) rfl rfl) ?_;have hin:=i.next;refine go [.N] ?_;refine aB.bB aa (tr (full aF.f0 20 l)) rfl (bJ (by rw[←ef aF.f0 (k:=i.k+1) (by omega) (by omega),cz aF.f0 i,take_of_length_le (by omega)])) ?_;refine go [.Z] ?_;refine AW.block ?_;refine AW.aL (λq:QI l.length=>[.sl 6 (.v (iv (q.bs:Nat))),.sl 0 (.h aa []),.sl 1 (.v (iv (l.length:Nat))),.sl 2 (.f 45 []),.rt aa .row (tr (full aF.f0 q.bs l))]) (λq=>l.length-q.bs) ⟨20,by omega,by omega⟩ (ws) ?_;intro q;have hq1:=q.h1;have hq2:=q.h2;refine go [.R2,.m,.N,.m,.b,.Z] ?_;refine cd (λc2=>?_) λc2=>?_
 ·try simp only[ah]at c2
  refine jd (AW.block (sr ?_));refine go [.m,.N] ?_;refine qq (Qt.binOp rfl rfl (by first|exact dM (by omega)|rfl)) ?_;refine go [.a,.a,.Z] ?_;refine AW.seq (AW.block ?_);refine AW.aL (λw:BI (q.bs+q.bs) l.length=>[.sl 6 (.v (iv (q.bs:Nat))),.sl 7 (.v (iv (w.a:Nat))),.sl 8 (.v (iv (w.a+(q.bs+q.bs):Nat))),.sl 0 (.h aa []),.sl 1 (.v (iv (l.length:Nat))),.sl 2 (.f 45 []),.rt aa .row (tr ((cu aF.f0 (q.bs+q.bs) l w.k)++(full aF.f0 q.bs (l.drop w.a))))]) (λw=>l.length-w.a) ⟨0,0,by simp,zero_le _⟩ (ar.bb ⟨rfl,rfl,cT (by(try dsimp only);omega),rfl,rfl,rfl,⟨_,rfl,bJ (by rw[drop_zero];rfl)⟩,trivial⟩ rfl rfl) ?_;intro w;have hwa:=w.le;have hwb:=fH aF.f0 w;have hwd:(l.drop w.a).length=l.length-w.a:=length_drop;refine go [.R2,.m,.N,.m,.b,.Z] ?_;refine cd (λc3=>?_) λc3=>?_
  ·try simp only[ah]at c3
   have n1:(ap aF.f0 ((l.drop w.a).take q.bs)).length=q.bs:=(by simp only[aU,length_take,length_drop]<;>omega)
   have n2:(ap aF.f0 (((l.drop w.a).drop q.bs).take q.bs)).length=q.bs:=(by simp only[aU,length_take,length_drop]<;>omega)
   have n3:(full aF.f0 q.bs ((l.drop w.a).drop (q.bs+q.bs))).length=l.length-w.a-(q.bs+q.bs):=by rw[mq aF.f0 hq1,length_drop];omega
   refine jd (AW.block (sr ?_));refine go [.m,.N,.m,.m,.m,.N,.b,.m,.m,.N] ?_;refine aB.bB aa (tr (aV (cu aF.f0 (q.bs+q.bs) l w.k) (ap aF.f0 ((l.drop w.a).take q.bs)) (ap aF.f0 (((l.drop w.a).drop q.bs).take q.bs)) (full aF.f0 q.bs ((l.drop w.a).drop (q.bs+q.bs))))) rfl (bJ (by rw[lR aF.f0 hq1];rfl)) ?_;refine go [.N] ?_;refine sp (aE.bW rfl (by decide) call171 rfl (kU (cu aF.f0 (q.bs+q.bs) l w.k) (ap aF.f0 ((l.drop w.a).take q.bs)) (ap aF.f0 (((l.drop w.a).drop q.bs).take q.bs)) (full aF.f0 q.bs ((l.drop w.a).drop (q.bs+q.bs))) _ _ _ (by omega) (by omega) (by omega) (by omega) (by omega) (cf _ _) (cf _ _) (by omega)) rfl rfl rfl (aj rfl) rfl rfl) ?_;refine go [.Z,.R,.m,.N,.a,.Z,.R1,.m,.m,.N] ?_;refine qq (Qt.binOp rfl rfl (by first|exact dM (by omega)|rfl)) ?_;refine go [.b,.a,.Z] ?_;refine⟨⟨w.k+1,w.a+(q.bs+q.bs),w.next,by omega⟩,ar.bb ⟨rfl,rfl,cT (by show _=((w.a+(q.bs+q.bs)+(q.bs+q.bs):Nat):Int);omega),rfl,rfl,rfl,⟨_,rfl,bJ (by rw[kP,cz aF.f0 w,append_assoc,drop_drop])⟩,trivial⟩ rfl rfl,?_⟩;dsimp only;omega
  try simp only[ah]at c3
  have hwn:=w.next;have hful:(full aF.f0 (q.bs+q.bs) l)=(cu aF.f0 (q.bs+q.bs) l w.k)++ap aF.f0 (l.drop w.a):=by
   rw[←ef aF.f0 (k:=w.k+1) (by omega) (by omega),cz aF.f0 w,take_of_length_le (by omega)]
  refine AW.exit ?_;dsimp only[aD,au,reduceIte];refine go [.R2,.m,.N,.m,.b,.a,.Z,.R,.m,.N,.m,.b,.Z] ?_;refine cd (λc4=>?_) λc4=>?_
  ·try simp only[ah]at c4
   have n1:(ap aF.f0 ((l.drop w.a).take q.bs)).length=q.bs:=(by simp only[aU,length_take,length_drop]<;>omega)
   have n2:(ap aF.f0 ((l.drop w.a).drop q.bs)).length=l.length-w.a-q.bs:=(by simp only[aU,length_take,length_drop]<;>omega)
   refine go [.R1,.m,.N,.m,.m,.m,.N,.m,.N] ?_;refine aB.bB aa (tr (aV (cu aF.f0 (q.bs+q.bs) l w.k) (ap aF.f0 ((l.drop w.a).take q.bs)) (ap aF.f0 ((l.drop w.a).drop q.bs)) [])) rfl (bJ (by rw[gV aF.f0 hq1,di aF.f0 hq1 (by rw[length_drop];omega)];first|done|simp only[aV,append_nil])) ?_;refine go [.N] ?_;refine sp (aE.bW rfl (by decide) call171 rfl (kU (cu aF.f0 (q.bs+q.bs) l w.k) (ap aF.f0 ((l.drop w.a).take q.bs)) (ap aF.f0 ((l.drop w.a).drop q.bs)) [] _ _ _ (by omega) (by omega) (by omega) (by omega) (by omega) (cf _ _) (cf _ _) (by simp only[length_nil];omega)) rfl rfl rfl (aj rfl) rfl rfl) ?_;refine go [.Z,.R1,.m,.N] ?_;refine qq (Qt.binOp rfl rfl (by first|exact dM (by omega)|rfl)) ?_;refine go [.a,.Z] ?_;have hfin:(cu aF.f0 (q.bs+q.bs) l w.k)++ap aF.f0 ((ap aF.f0 ((l.drop w.a).take q.bs))++(ap aF.f0 ((l.drop w.a).drop q.bs)))=(full aF.f0 (q.bs+q.bs) l):=by rw[ju,take_append_drop,hful]
   refine⟨⟨q.bs+q.bs,by omega,by omega⟩,ar.bb ⟨cT (by show _=((q.bs+q.bs:Nat):Int);omega),rfl,rfl,rfl,⟨_,rfl,bJ hfin⟩,trivial⟩ rfl rfl,?_⟩;dsimp only;omega
  try simp only[ah]at c4
  refine go [.J,.R1,.m,.N] ?_;refine qq (Qt.binOp rfl rfl (by first|exact dM (by omega)|rfl)) ?_;refine go [.a,.Z] ?_;have hfin:(cu aF.f0 (q.bs+q.bs) l w.k)++(full aF.f0 q.bs (l.drop w.a))=(full aF.f0 (q.bs+q.bs) l):=by rw[hful,di aF.f0 hq1 (by omega)]
  refine⟨⟨q.bs+q.bs,by omega,by omega⟩,ar.bb ⟨cT (by show _=((q.bs+q.bs:Nat):Int);omega),rfl,rfl,rfl,⟨_,rfl,bJ hfin⟩,trivial⟩ rfl rfl,?_⟩;dsimp only;omega
 try simp only[ah]at c2
 refine AW.exit ?_;dsimp only[aD,au,reduceIte];have hf:(full aF.f0 q.bs l)=ap aF.f0 l:=di aF.f0 hq1 (by omega);rw[←hf];refine⟨.inr rfl,[],.nil,?_⟩;refine⟨λn=>n,rfl,λ_ _=>rfl,nodup_nil,(by simp),?_⟩;intro p hp;cases List.mem_singleton.1 hp;exact aq rfl
theorem pk(l:List aF)(hl:l.length≤100000000):a_ prog 44 [.h aa [],.f 45 []] [.rt aa .row (tr l)] (ch (.t []) [] [(aa,tr (ap aF.f0 l))]):=by
 refine ob func44 ntmps44 ?_;refine go [.R1,.m,.m,.h,.N,.m] ?_;refine sp (aE.bW rfl (by decide) call120 rfl (nG l hl) rfl rfl rfl (aj rfl) rfl rfl) ?_;refine go [.Z] ?_;refine⟨.inr rfl,[],.nil,?_⟩;refine⟨λn=>n,rfl,λ_ _=>rfl,nodup_nil,(by simp),?_⟩;intro p hp;cases List.mem_singleton.1 hp;exact aq rfl
open Go Go.RowKit Go.Proofs Go.Proofs.Tryz
def ls:Value→Option Addr×Nat×Nat
 | .slice a l c=>(a,l,c)
 | _=>(none,0,0)
def fZ(p:bu)(r5 r6 r7:Value):aF:=⟨p.ey,p.bM,p.State,p.dX,p.dh.Pc,(ls r5).1,(ls r5).2.1,(ls r5).2.2,(ls r6).1,(ls r6).2.1,(ls r6).2.2,(ls r7).1,(ls r7).2.1,(ls r7).2.2,p.cJ,p.Code⟩
theorem nA(l:List bu)(hl:l.length≤100000000):a_ prog 44 [.h aa [],.f 45 []] [.rt aa .row (tr l)] (ch (.t []) [] [(aa,tr (ap bu.ey l))]):=
 oJ bu.ey aF.f0 rfl rfl l (λV h1 h2 h3=>by
  have hg:∀k,k<l.length→((range l.length).map λk=>fZ (l.getD k En.ab) (V k 5) (V k 6) (V k 7)).getD k En.ab=fZ (l.getD k En.ab) (V k 5) (V k 6) (V k 7):=λk hk=>by
   rw[getD_eq_getElem?_getD,getElem?_map,getElem?_range hk];rfl
  refine⟨(range l.length).map λk=>fZ (l.getD k En.ab) (V k 5) (V k 6) (V k 7),by simp,λk c hk hc=>?_,λk hk=>by rw[hg k hk];rfl⟩;rw[hg k hk]
  match c,hc with
  | 0,hc=>rw[h2 k 0 _ hk hc rfl];rfl
  | 1,hc=>rw[h2 k 1 _ hk hc rfl];rfl
  | 2,hc=>rw[h2 k 2 _ hk hc rfl];rfl
  | 3,hc=>rw[h2 k 3 _ hk hc rfl];rfl
  | 4,hc=>rw[h2 k 4 _ hk hc rfl];rfl
  | 5,hc=>obtain⟨a,cap,e⟩:=h3 k 5 _ _ _ hk hc rfl;rw[e];simp only[fZ,e];rfl
  | 6,hc=>obtain⟨a,cap,e⟩:=h3 k 6 _ _ _ hk hc rfl;rw[e];simp only[fZ,e];rfl
  | 7,hc=>obtain⟨a,cap,e⟩:=h3 k 7 _ _ _ hk hc rfl;rw[e];simp only[fZ,e];rfl
  | 8,hc=>rw[h2 k 8 _ hk hc rfl];rfl
  | 9,hc=>rw[h2 k 9 _ hk hc rfl];rfl
  | c+10,hc=>exact absurd hc (by show ¬c+10<10;omega)) λlp hlp=>pk lp (by omega)
open Go Go.RowKit Go.Proofs Go.Proofs.Tryz
theorem qC(p:bu)(U:Nat→Value)(h1:∀c x,c<10→(En.cs p).getD c .j= .v x→U c=x)(h2:∀c n0 l g,c<10→(En.cs p).getD c .j= .s n0 l g→∃a cap,U c= .slice a l cap):∀c,c<10→(En.cs (fZ p (U 5) (U 6) (U 7))).getD c .j= .v (U c):=λc hc=>by
 match c,hc with
 | 0,hc=>rw[h1 0 _ hc rfl];rfl
 | 1,hc=>rw[h1 1 _ hc rfl];rfl
 | 2,hc=>rw[h1 2 _ hc rfl];rfl
 | 3,hc=>rw[h1 3 _ hc rfl];rfl
 | 4,hc=>rw[h1 4 _ hc rfl];rfl
 | 5,hc=>obtain⟨a,cap,e⟩:=h2 5 _ _ _ hc rfl;rw[e];simp only[fZ,e];rfl
 | 6,hc=>obtain⟨a,cap,e⟩:=h2 6 _ _ _ hc rfl;rw[e];simp only[fZ,e];rfl
 | 7,hc=>obtain⟨a,cap,e⟩:=h2 7 _ _ _ hc rfl;rw[e];simp only[fZ,e];rfl
 | 8,hc=>rw[h1 8 _ hc rfl];rfl
 | 9,hc=>rw[h1 9 _ hc rfl];rfl
 | c+10,hc=>exact absurd hc (by omega)
def jP:Nat→Option Nat
 | 5=>some (aa+1)
 | 6=>some (aa+2)
 | 7=>some (aa+3)
 | _=>none
def vu(U:Nat→Value):X:= .g [.v (U 0),.v (U 1),.v (U 2),.v (U 3),.v (U 4),.v (U 5),.v (U 6),.v (U 7),.v (U 8),.v (U 9)]
theorem oG(l:List bu)(p:bu)(hs:l.length≤2000000):a_ prog 96 [.h aa [],.g [.v (iv p.ey),.v (iv p.bM),.v (iv p.State),.v (iv p.dX),.v (iv p.dh.Pc),.h (aa+1) [],.h (aa+2) [],.h (aa+3) [],.v (iv p.cJ),.v (iv p.Code)]] [.rt aa .row (tr l),.rt (aa+1) .row (tr p.dh.b_),.rt (aa+2) .row (tr p.Mem),.rt (aa+3) .row (tr p.cH)] (ch (.h 0 []) [(0,.row,tr (bL bu.ey l p))] [(aa,.j),(aa+1,.j),(aa+2,.j),(aa+3,.j)]):=by
 have hle:=ku (l.map bu.ey) (bu.ey p);rw[length_map]at hle;have eT:tr (bL bu.ey l p)= .s 10 (l.length+1) λk c=>if k<eO (l.map bu.ey) (bu.ey p)then(En.cs (l.getD k En.ab)).getD c .j else if k=eO (l.map bu.ey) (bu.ey p)then(En.cs p).getD c .j else(En.cs (l.getD (k-1) En.ab)).getD c .j:=by
  show T.s 10 (bL bu.ey l p).length (λk c=>(En.cs ((bL bu.ey l p).getD k En.ab)).getD c .j)=_;rw[eM];congr 1;funext k c;rw[fG];split
  ·rfl
  ·split<;>rfl
 rw[eT];refine mx (gT:=λc=>(En.cs p).getD c .j) (fT:=λk c=>(En.cs (l.getD k En.ab)).getD c .j) jP [aa+1,aa+2,aa+3] _ (eO (l.map bu.ey) (bu.ey p)) hle vu (λid m t h=>?_) (λid h=>?_) (λc id hc h=>?_) (λc c' id hc hc' h h'=>?_) (λR H w vp h=>?_) λV U h1 h2 h3 h4=>?_
 ·simp only[aW,mem_cons,not_mem_nil,or_false,E.rt.injEq]at h;rcases h with⟨rfl,_⟩|⟨rfl,_⟩|⟨rfl,_⟩<;>omega
 ·simp only[mem_cons,not_mem_nil,or_false]at h;rcases h with rfl|rfl|rfl
  ·exact⟨by omega,_,mem_cons_self ..⟩
  ·exact⟨by omega,_,mem_cons_of_mem _ (mem_cons_self ..)⟩
  ·exact⟨by omega,_,mem_cons_of_mem _ (mem_cons_of_mem _ (mem_cons_self ..))⟩
 ·match c,hc,h with
  | 5,_,h=>cases h;exact mem_cons_self ..
  | 6,_,h=>cases h;exact mem_cons_of_mem _ (mem_cons_self ..)
  | 7,_,h=>cases h;exact mem_cons_of_mem _ (mem_cons_of_mem _ (mem_cons_self ..))
 ·match c,c',h,h' with
  | 5,5,_,_=>rfl
  | 6,6,_,_=>rfl
  | 7,7,_,_=>rfl
  | 5,6,h,h'=>cases h;simp[jP]at h'
  | 5,7,h,h'=>cases h;simp[jP]at h'
  | 6,5,h,h'=>cases h;simp[jP]at h'
  | 6,7,h,h'=>cases h;simp[jP]at h'
  | 7,5,h,h'=>cases h;simp[jP]at h'
  | 7,6,h,h'=>cases h;simp[jP]at h'
 ·obtain⟨vs,e,h⟩:=h
  match vs,h with
  | [u0,u1,u2,u3,u4,u5,u6,u7,u8,u9],⟨e0,e1,e2,e3,e4,⟨_,_,_,_,_,q5⟩,⟨_,_,_,_,_,q6⟩,⟨_,_,_,_,_,q7⟩,e8,e9,_⟩=>
  simp only[hd,Option.some.injEq]at q5 q6 q7;obtain rfl:u0=_:=e0;obtain rfl:u1=_:=e1;obtain rfl:u2=_:=e2;obtain rfl:u3=_:=e3;obtain rfl:u4=_:=e4;obtain rfl:u8=_:=e8;obtain rfl:u9=_:=e9;refine⟨λc=>[iv p.ey,iv p.bM,iv p.State,iv p.dX,iv p.dh.Pc,u5,u6,u7,iv p.cJ,iv p.Code].getD c undef,λR' H' w'=>⟨_,e,rfl,rfl,rfl,rfl,rfl,rfl,rfl,rfl,rfl,rfl,trivial⟩,λc hc=>?_⟩
  match c,hc with
  | 0,_=>exact⟨λ_=>⟨rfl,rfl⟩,λid h=>by cases h⟩
  | 1,_=>exact⟨λ_=>⟨rfl,rfl⟩,λid h=>by cases h⟩
  | 2,_=>exact⟨λ_=>⟨rfl,rfl⟩,λid h=>by cases h⟩
  | 3,_=>exact⟨λ_=>⟨rfl,rfl⟩,λid h=>by cases h⟩
  | 4,_=>exact⟨λ_=>⟨rfl,rfl⟩,λid h=>by cases h⟩
  | 5,_=>exact⟨λh=>(by cases h),λid h=>by cases h;exact q5.symm⟩
  | 6,_=>exact⟨λh=>(by cases h),λid h=>by cases h;exact q6.symm⟩
  | 7,_=>exact⟨λh=>(by cases h),λid h=>by cases h;exact q7.symm⟩
  | 8,_=>exact⟨λ_=>⟨rfl,rfl⟩,λid h=>by cases h⟩
  | 9,_=>exact⟨λ_=>⟨rfl,rfl⟩,λid h=>by cases h⟩
  | c+10,hc=>exact absurd (show c+10<10 from hc) (by omega)
 ·let lp:=(range l.length).map λk=>fZ (l.getD k En.ab) (V k 5) (V k 6) (V k 7);let pp:=fZ p (U 5) (U 6) (U 7);have hl:lp.length=l.length:=by simp[lp]
  have hg:∀k,k<l.length→lp.getD k En.ab=fZ (l.getD k En.ab) (V k 5) (V k 6) (V k 7):=λk hk=>by
   rw[getD_eq_getElem?_getD,getElem?_map,getElem?_range hk];rfl
  have hcs:∀k c,k<l.length→c<10→(En.cs (lp.getD k En.ab)).getD c .j= .v (V k c):=λk c hk hc=>by
   rw[hg k hk];exact qC _ (V k) (λc x hc=>h1 k c x hk hc) (λc n0 l g hc=>h2 k c n0 l g hk hc) c hc
  have hps:∀c,c<10→(En.cs pp).getD c .j= .v (U c):=qC p U h3 h4;have hkey:lp.map aF.f0=l.map bu.ey:=by
   conv=>rhs;rw[←ga l En.ab]
   rw[map_map,map_map];rfl
  have hc:=rf lp pp (by omega);have hX:vu U= .g [.v (iv pp.f0),.v (iv pp.f1),.v (iv pp.f2),.v (iv pp.f3),.v (iv pp.f4),.v (.slice pp.Dn pp.C4 pp.C7),.v (.slice pp.DG pp.CT pp.DC),.v (.slice pp.CY pp.Db pp.Dl),.v (iv pp.f8),.v (iv pp.f9)]:=by
   unfold vu;rw[←T.v.inj (hps 0 (by omega)),←T.v.inj (hps 1 (by omega)),←T.v.inj (hps 2 (by omega)),←T.v.inj (hps 3 (by omega)),←T.v.inj (hps 4 (by omega)),←T.v.inj (hps 5 (by omega)),←T.v.inj (hps 6 (by omega)),←T.v.inj (hps 7 (by omega)),←T.v.inj (hps 8 (by omega)),←T.v.inj (hps 9 (by omega))]
  rw[←hX,show tr lp= .s 10 l.length (λk c=>(En.cs (lp.getD k En.ab)).getD c .j)from congrArg (λm=>T.s 10 m λk c=>(En.cs (lp.getD k En.ab)).getD c .j) hl,show tr (bL aF.f0 lp pp)= .s 10 (l.length+1) (λk c=>(En.cs ((bL aF.f0 lp pp).getD k En.ab)).getD c .j)from congrArg (λm=>T.s 10 m λk c=>(En.cs ((bL aF.f0 lp pp).getD k En.ab)).getD c .j) (by rw[eM,hl])]at hc;refine⟨_,_,hcs,λk c hk hc=>?_,hc⟩;rw[fG,hkey,show aF.f0 pp=bu.ey p from rfl];split
  ·exact hcs k c (by omega) hc
  ·split
   ·exact hps c hc
   ·exact hcs (k-1) c (by omega) hc
open Go Go.RowKit Go.Proofs Go.Proofs.Tryz
theorem km(a b:Int):a_ prog 48 [.v (iv a),.v (iv b)] [] (λy _=>y= .v (iv (mH a b))):=by
 refine ob func48 ntmps48 ?_;refine go [.R,.a,.Z] ?_;refine AW.seq (AW.block (sr ?_));refine go [.m,.m,.N,.b,.a,.Z] ?_;refine cd (λc1=>?_) λc1=>?_
 ·try simp only[ah]at c1
  refine go [.R,.a,.Z] ?_;refine aQ 4 ?_;rw[show mH a b= -1 from if_pos (by omega)];rfl
 try simp only[ah]at c1
 refine go [.R,.m,.N,.m,.b,.a,.Z] ?_;refine cd (λc2=>?_) λc2=>?_
 ·try simp only[ah]at c2
  refine go [.R,.a,.Z] ?_;refine aQ 4 ?_;rw[show mH a b=1 from(if_neg (by omega)).trans (if_pos (by omega))];rfl
 try simp only[ah]at c2
 refine go [.J,.R,.a,.Z] ?_;refine aQ 4 ?_;rw[show mH a b=0 from(if_neg (by omega)).trans (if_neg (by omega))];rfl
theorem i_(a b:az):a_ prog 47 [.g [.v (iv a.Id),.v (iv a.Kind),.v (iv a.Target),.v (iv a.j3),.v (iv a.fc)],.g [.v (iv b.Id),.v (iv b.Kind),.v (iv b.Target),.v (iv b.j3),.v (iv b.fc)]] [] (λy _=>y= .v (iv (mH (az.Id a) (az.Id b)))):=by
 refine ob func47 ntmps47 ?_;refine go [.R,.B,.N,.B,.N,.a,.Z,.R,.f,.l,.N,.f,.l] ?_;refine cv call48 rfl rfl (km _ _) ?_;refine go [.N,.a,.Z] ?_;refine aQ 4 ?_;rfl
end Go.Proofs.YtekcnnngjoonbaaGreat.VM

