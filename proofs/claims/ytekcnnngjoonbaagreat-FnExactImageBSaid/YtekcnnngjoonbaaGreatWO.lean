/- Contracts. No conditions. -/
import Derived.Test.YtekcnnngjoonbaaGreatWE
import Derived.Test.YtekcnnngjoonbaaGreatWL
import Derived.Test.YtekcnnngjoonbaaGreatWN
set_option linter.all false
set_option maxHeartbeats 8000000
set_option maxRecDepth 10000
namespace Go.Proofs.YtekcnnngjoonbaaGreat.VM
open List Nat
open Go Go.RowKit Go.Proofs Go.Proofs.Tryz
theorem k7(P X S:List aK)(xa xb:Int)(hxa:xa=(P.length:Nat))(hxb:xb=(P.length+X.length:Nat))(hl:(P++(X++S)).length≤4611686018427387904):a_ prog 176 [.h aa [],.v (iv xa),.v (iv xb),.f 52 []] [.rt aa .row (tr (P++(X++S)))] (ch (.t []) [] [(aa,tr (P++(ap aK.f0 X++S)))]):=by
 subst hxa hxb;exact sv P X S _ _ rfl rfl hl
theorem pQ(P X:List aK)(xa xb:Int)(hxa:xa=(P.length:Nat))(hxb:xb=(P.length+X.length:Nat))(hl:(P++X).length≤4611686018427387904):a_ prog 176 [.h aa [],.v (iv xa),.v (iv xb),.f 52 []] [.rt aa .row (tr (P++X))] (ch (.t []) [] [(aa,tr (P++ap aK.f0 X))]):=by
 have h:=k7 P X [] xa xb hxa hxb (by rw[append_nil];exact hl)
 rwa [append_nil,append_nil]at h
theorem lZ:∀n,qL n
 | 0=>λP X Y S xa xm xb _ _ _ h hx=>absurd h (by omega)
 | n+1=>λP X Y S xa xm xb ha hm hb h hx hy hX hY hl=>by
  subst ha hm hb;exact pV n (lZ n) P X Y S _ _ _ rfl rfl rfl h hx hy hX hY hl
theorem lb(P X Y S:List aK)(xa xm xb:Int)(ha:xa=(P.length:Nat))(hm:xm=(P.length+X.length:Nat))(hb:xb=(P.length+X.length+Y.length:Nat))(hx:0<X.length)(hy:0<Y.length)(hX:fS aK.f0 X)(hY:fS aK.f0 Y)(hl:P.length+X.length+Y.length+S.length≤2305843009213693952):a_ prog 177 [.h aa [],.v (iv xa),.v (iv xm),.v (iv xb),.f 52 []] [.rt aa .row (tr (aV P X Y S))] (ch (.t []) [] [(aa,tr (P++(ap aK.f0 (X++Y)++S)))]):=
 lZ (X.length+Y.length) P X Y S xa xm xb ha hm hb (Nat.le_refl _) hx hy hX hY hl
theorem nO(l:List aK)(hl:l.length≤100000000):a_ prog 123 [.h aa [],.v (iv l.length),.f 52 []] [.rt aa .row (tr l)] (ch (.t []) [] [(aa,tr (ap aK.f0 l))]):=by
 refine ob func123 ntmps123 ?_;refine go [.R,.a,.Z,.R,.m,.a,.N,.a,.Z] ?_;refine AW.seq (AW.block ?_);refine AW.aL (λi:BI 20 l.length=>[.sl 6 (.v (iv 20)),.sl 7 (.v (iv (i.a:Nat))),.sl 8 (.v (iv (i.a+20:Nat))),.sl 0 (.h aa []),.sl 1 (.v (iv (l.length:Nat))),.sl 2 (.f 52 []),.rt aa .row (tr ((cu aK.f0 20 l i.k)++l.drop i.a))]) (λi=>l.length-i.a) ⟨0,0,rfl,zero_le _⟩ (ar.bb ⟨rfl,rfl,rfl,rfl,rfl,rfl,⟨_,rfl,(by rw[drop_zero];exact aw)⟩,trivial⟩ rfl rfl) ?_;intro i;have hia:=i.le;have hib:=fH aK.f0 i;have hid:(l.drop i.a).length=l.length-i.a:=length_drop;refine go [.R2,.m,.m,.N,.b,.Z] ?_;refine cd (λc1=>?_) λc1=>?_
 ·try simp only[ah]at c1
  refine jd (AW.block (sr ?_));refine go [.m,.m,.N,.m,.m,.N] ?_;refine aB.bB aa (tr ((cu aK.f0 20 l i.k)++((l.drop i.a).take 20++l.drop (i.a+20)))) rfl (bJ (by rw[←drop_drop,take_append_drop])) ?_;refine go [.N] ?_;refine sp (aE.bW rfl (by decide) call176 rfl (k7 (cu aK.f0 20 l i.k) ((l.drop i.a).take 20) (l.drop (i.a+20)) _ _ (by omega) (by rw[length_take];omega) (by simp only[length_append,length_take,length_drop];omega)) rfl rfl rfl (aj rfl) rfl rfl) ?_;refine go [.Z,.R,.m,.N,.a,.Z,.R1,.m,.m,.N,.b,.a,.Z] ?_;refine⟨⟨i.k+1,i.a+20,i.next,by omega⟩,ar.bb ⟨rfl,rfl,cT (by show _=((i.a+20+20:Nat):Int);omega),rfl,rfl,rfl,⟨_,rfl,bJ (by rw[cz aK.f0 i,append_assoc])⟩,trivial⟩ rfl rfl,?_⟩;dsimp only;omega
 try simp only[ah]at c1
 refine AW.exit ?_;dsimp only[aD,au,reduceIte];refine go [.R,.m,.N,.m,.m,.m,.N] ?_;refine sp (aE.bW rfl (by decide) call176 rfl (pQ (cu aK.f0 20 l i.k) (l.drop i.a) _ _ (by omega) (by omega) (by rw[length_append];omega)) rfl rfl rfl (aj rfl) rfl rfl) ?_;have hin:=i.next;refine go [.N] ?_;refine aB.bB aa (tr (full aK.f0 20 l)) rfl (bJ (by rw[←ef aK.f0 (k:=i.k+1) (by omega) (by omega),cz aK.f0 i,take_of_length_le (by omega)])) ?_;refine go [.Z] ?_;refine AW.block ?_;refine AW.aL (λq:QI l.length=>[.sl 6 (.v (iv (q.bs:Nat))),.sl 0 (.h aa []),.sl 1 (.v (iv (l.length:Nat))),.sl 2 (.f 52 []),.rt aa .row (tr (full aK.f0 q.bs l))]) (λq=>l.length-q.bs) ⟨20,by omega,by omega⟩ (ws) ?_;intro q;have hq1:=q.h1;have hq2:=q.h2;refine go [.R2,.m,.N,.m,.b,.Z] ?_;refine cd (λc2=>?_) λc2=>?_
 ·try simp only[ah]at c2
  refine jd (AW.block (sr ?_));refine go [.m,.N] ?_;refine qq (Qt.binOp rfl rfl (by first|exact dM (by omega)|rfl)) ?_;refine go [.a,.a,.Z] ?_;refine AW.seq (AW.block ?_);refine AW.aL (λw:BI (q.bs+q.bs) l.length=>[.sl 6 (.v (iv (q.bs:Nat))),.sl 7 (.v (iv (w.a:Nat))),.sl 8 (.v (iv (w.a+(q.bs+q.bs):Nat))),.sl 0 (.h aa []),.sl 1 (.v (iv (l.length:Nat))),.sl 2 (.f 52 []),.rt aa .row (tr ((cu aK.f0 (q.bs+q.bs) l w.k)++(full aK.f0 q.bs (l.drop w.a))))]) (λw=>l.length-w.a) ⟨0,0,by simp,zero_le _⟩ (ar.bb ⟨rfl,rfl,cT (by(try dsimp only);omega),rfl,rfl,rfl,⟨_,rfl,bJ (by rw[drop_zero];rfl)⟩,trivial⟩ rfl rfl) ?_;intro w;have hwa:=w.le;have hwb:=fH aK.f0 w;have hwd:(l.drop w.a).length=l.length-w.a:=length_drop;refine go [.R2,.m,.N,.m,.b,.Z] ?_;refine cd (λc3=>?_) λc3=>?_
  ·try simp only[ah]at c3
   have n1:(ap aK.f0 ((l.drop w.a).take q.bs)).length=q.bs:=(by simp only[aU,length_take,length_drop]<;>omega)
   have n2:(ap aK.f0 (((l.drop w.a).drop q.bs).take q.bs)).length=q.bs:=(by simp only[aU,length_take,length_drop]<;>omega)
   have n3:(full aK.f0 q.bs ((l.drop w.a).drop (q.bs+q.bs))).length=l.length-w.a-(q.bs+q.bs):=by rw[mq aK.f0 hq1,length_drop];omega
   refine jd (AW.block (sr ?_));refine go [.m,.N,.m,.m,.m,.N,.b,.m,.m,.N] ?_;refine aB.bB aa (tr (aV (cu aK.f0 (q.bs+q.bs) l w.k) (ap aK.f0 ((l.drop w.a).take q.bs)) (ap aK.f0 (((l.drop w.a).drop q.bs).take q.bs)) (full aK.f0 q.bs ((l.drop w.a).drop (q.bs+q.bs))))) rfl (bJ (by rw[lR aK.f0 hq1];rfl)) ?_;refine go [.N] ?_;refine sp (aE.bW rfl (by decide) call177 rfl (lb (cu aK.f0 (q.bs+q.bs) l w.k) (ap aK.f0 ((l.drop w.a).take q.bs)) (ap aK.f0 (((l.drop w.a).drop q.bs).take q.bs)) (full aK.f0 q.bs ((l.drop w.a).drop (q.bs+q.bs))) _ _ _ (by omega) (by omega) (by omega) (by omega) (by omega) (cf _ _) (cf _ _) (by omega)) rfl rfl rfl (aj rfl) rfl rfl) ?_;refine go [.Z,.R,.m,.N,.a,.Z,.R1,.m,.m,.N] ?_;refine qq (Qt.binOp rfl rfl (by first|exact dM (by omega)|rfl)) ?_;refine go [.b,.a,.Z] ?_;refine⟨⟨w.k+1,w.a+(q.bs+q.bs),w.next,by omega⟩,ar.bb ⟨rfl,rfl,cT (by show _=((w.a+(q.bs+q.bs)+(q.bs+q.bs):Nat):Int);omega),rfl,rfl,rfl,⟨_,rfl,bJ (by rw[kP,cz aK.f0 w,append_assoc,drop_drop])⟩,trivial⟩ rfl rfl,?_⟩;dsimp only;omega
  try simp only[ah]at c3
  have hwn:=w.next;have hful:(full aK.f0 (q.bs+q.bs) l)=(cu aK.f0 (q.bs+q.bs) l w.k)++ap aK.f0 (l.drop w.a):=by
   rw[←ef aK.f0 (k:=w.k+1) (by omega) (by omega),cz aK.f0 w,take_of_length_le (by omega)]
  refine AW.exit ?_;dsimp only[aD,au,reduceIte];refine go [.R2,.m,.N,.m,.b,.a,.Z,.R,.m,.N,.m,.b,.Z] ?_;refine cd (λc4=>?_) λc4=>?_
  ·try simp only[ah]at c4
   have n1:(ap aK.f0 ((l.drop w.a).take q.bs)).length=q.bs:=(by simp only[aU,length_take,length_drop]<;>omega)
   have n2:(ap aK.f0 ((l.drop w.a).drop q.bs)).length=l.length-w.a-q.bs:=(by simp only[aU,length_take,length_drop]<;>omega)
   refine go [.R1,.m,.N,.m,.m,.m,.N,.m,.N] ?_;refine aB.bB aa (tr (aV (cu aK.f0 (q.bs+q.bs) l w.k) (ap aK.f0 ((l.drop w.a).take q.bs)) (ap aK.f0 ((l.drop w.a).drop q.bs)) [])) rfl (bJ (by rw[gV aK.f0 hq1,di aK.f0 hq1 (by rw[length_drop];omega)];first|done|simp only[aV,append_nil])) ?_;refine go [.N] ?_;refine sp (aE.bW rfl (by decide) call177 rfl (lb (cu aK.f0 (q.bs+q.bs) l w.k) (ap aK.f0 ((l.drop w.a).take q.bs)) (ap aK.f0 ((l.drop w.a).drop q.bs)) [] _ _ _ (by omega) (by omega) (by omega) (by omega) (by omega) (cf _ _) (cf _ _) (by simp only[length_nil];omega)) rfl rfl rfl (aj rfl) rfl rfl) ?_;refine go [.Z,.R1,.m,.N] ?_;refine qq (Qt.binOp rfl rfl (by first|exact dM (by omega)|rfl)) ?_;refine go [.a,.Z] ?_;have hfin:(cu aK.f0 (q.bs+q.bs) l w.k)++ap aK.f0 ((ap aK.f0 ((l.drop w.a).take q.bs))++(ap aK.f0 ((l.drop w.a).drop q.bs)))=(full aK.f0 (q.bs+q.bs) l):=by rw[ju,take_append_drop,hful]
   refine⟨⟨q.bs+q.bs,by omega,by omega⟩,ar.bb ⟨cT (by show _=((q.bs+q.bs:Nat):Int);omega),rfl,rfl,rfl,⟨_,rfl,bJ hfin⟩,trivial⟩ rfl rfl,?_⟩;dsimp only;omega
  try simp only[ah]at c4
  refine go [.J,.R1,.m,.N] ?_;refine qq (Qt.binOp rfl rfl (by first|exact dM (by omega)|rfl)) ?_;refine go [.a,.Z] ?_;have hfin:(cu aK.f0 (q.bs+q.bs) l w.k)++(full aK.f0 q.bs (l.drop w.a))=(full aK.f0 (q.bs+q.bs) l):=by rw[hful,di aK.f0 hq1 (by omega)]
  refine⟨⟨q.bs+q.bs,by omega,by omega⟩,ar.bb ⟨cT (by show _=((q.bs+q.bs:Nat):Int);omega),rfl,rfl,rfl,⟨_,rfl,bJ hfin⟩,trivial⟩ rfl rfl,?_⟩;dsimp only;omega
 try simp only[ah]at c2
 refine AW.exit ?_;dsimp only[aD,au,reduceIte];have hf:(full aK.f0 q.bs l)=ap aK.f0 l:=di aK.f0 hq1 (by omega);rw[←hf];refine⟨.inr rfl,[],.nil,?_⟩;refine⟨λn=>n,rfl,λ_ _=>rfl,nodup_nil,(by simp),?_⟩;intro p hp;cases List.mem_singleton.1 hp;exact aq rfl
theorem oM(l:List aK)(hl:l.length≤100000000):a_ prog 51 [.h aa [],.f 52 []] [.rt aa .row (tr l)] (ch (.t []) [] [(aa,tr (ap aK.f0 l))]):=by
 refine ob func51 ntmps51 ?_;refine go [.R1,.m,.m,.h,.N,.m] ?_;refine sp (aE.bW rfl (by decide) call123 rfl (nO l hl) rfl rfl rfl (aj rfl) rfl rfl) ?_;refine go [.Z] ?_;refine⟨.inr rfl,[],.nil,?_⟩;refine⟨λn=>n,rfl,λ_ _=>rfl,nodup_nil,(by simp),?_⟩;intro p hp;cases List.mem_singleton.1 hp;exact aq rfl
open Go Go.RowKit Go.Proofs Go.Proofs.Tryz
def jQ(p:ca)(r1:Value):aK:=⟨p.Name,(ls r1).1,(ls r1).2.1,(ls r1).2.2⟩
theorem nI(l:List ca)(hl:l.length≤100000000):a_ prog 51 [.h aa [],.f 52 []] [.rt aa .row (tr l)] (ch (.t []) [] [(aa,tr (ap ca.Name l))]):=
 oJ ca.Name aK.f0 rfl rfl l (λV h1 h2 h3=>by
  have hg:∀k,k<l.length→((range l.length).map λk=>jQ (l.getD k En.ab) (V k 1)).getD k En.ab=jQ (l.getD k En.ab) (V k 1):=λk hk=>by
   rw[getD_eq_getElem?_getD,getElem?_map,getElem?_range hk];rfl
  refine⟨(range l.length).map λk=>jQ (l.getD k En.ab) (V k 1),by simp,λk c hk hc=>?_,λk hk=>by rw[hg k hk];rfl⟩;rw[hg k hk]
  match c,hc with
  | 0,hc=>rw[h2 k 0 _ hk hc rfl];rfl
  | 1,hc=>obtain⟨a,cap,e⟩:=h3 k 1 _ _ _ hk hc rfl;rw[e];simp only[jQ,e];rfl
  | c+2,hc=>exact absurd hc (by show ¬c+2<2;omega)) λlp hlp=>oM lp (by omega)
open Go Go.RowKit Go.Proofs Go.Proofs.Tryz
theorem qz(p:ca)(U:Nat→Value)(h1:∀c x,c<2→(En.cs p).getD c .j= .v x→U c=x)(h2:∀c n0 l g,c<2→(En.cs p).getD c .j= .s n0 l g→∃a cap,U c= .slice a l cap):∀c,c<2→(En.cs (jQ p (U 1))).getD c .j= .v (U c):=λc hc=>by
 match c,hc with
 | 0,hc=>rw[h1 0 _ hc rfl];rfl
 | 1,hc=>obtain⟨a,cap,e⟩:=h2 1 _ _ _ hc rfl;rw[e];simp only[jQ,e];rfl
 | c+2,hc=>exact absurd hc (by omega)
def Bp:Nat→Option Nat
 | 1=>some (aa+1)
 | _=>none
def wb(U:Nat→Value):X:= .g [.v (U 0),.v (U 1)]
theorem pu(l:List ca)(p:ca)(hs:l.length≤2000000):a_ prog 101 [.h aa [],.g [.v (iv p.Name),.h (aa+1) []]] [.rt aa .row (tr l),.rt (aa+1) .row (tr p.Data)] (ch (.h 0 []) [(0,.row,tr (bL ca.Name l p))] [(aa,.j),(aa+1,.j)]):=by
 have hle:=ku (l.map ca.Name) (ca.Name p);rw[length_map]at hle;have eT:tr (bL ca.Name l p)= .s 2 (l.length+1) λk c=>if k<eO (l.map ca.Name) (ca.Name p)then(En.cs (l.getD k En.ab)).getD c .j else if k=eO (l.map ca.Name) (ca.Name p)then(En.cs p).getD c .j else(En.cs (l.getD (k-1) En.ab)).getD c .j:=by
  show T.s 2 (bL ca.Name l p).length (λk c=>(En.cs ((bL ca.Name l p).getD k En.ab)).getD c .j)=_;rw[eM];congr 1;funext k c;rw[fG];split
  ·rfl
  ·split<;>rfl
 rw[eT];refine mx (gT:=λc=>(En.cs p).getD c .j) (fT:=λk c=>(En.cs (l.getD k En.ab)).getD c .j) Bp [aa+1] _ (eO (l.map ca.Name) (ca.Name p)) hle wb (λid m t h=>?_) (λid h=>?_) (λc id hc h=>?_) (λc c' id hc hc' h h'=>?_) (λR H w vp h=>?_) λV U h1 h2 h3 h4=>?_
 ·simp only[aW,mem_cons,not_mem_nil,or_false,E.rt.injEq]at h;rcases h with⟨rfl,_⟩<;>omega
 ·simp only[mem_cons,not_mem_nil,or_false]at h;rcases h with rfl
  exact⟨by omega,_,mem_cons_self ..⟩
 ·match c,hc,h with
  | 1,_,h=>cases h;exact mem_cons_self ..
 ·match c,c',h,h' with
  | 1,1,_,_=>rfl
 ·obtain⟨vs,e,h⟩:=h
  match vs,h with
  | [u0,u1],⟨e0,⟨_,_,_,_,_,q1⟩,_⟩=>
  simp only[hd,Option.some.injEq]at q1;obtain rfl:u0=_:=e0;refine⟨λc=>[iv p.Name,u1].getD c undef,λR' H' w'=>⟨_,e,rfl,rfl,trivial⟩,λc hc=>?_⟩
  match c,hc with
  | 0,_=>exact⟨λ_=>⟨rfl,rfl⟩,λid h=>by cases h⟩
  | 1,_=>exact⟨λh=>(by cases h),λid h=>by cases h;exact q1.symm⟩
  | c+2,hc=>exact absurd (show c+2<2 from hc) (by omega)
 ·let lp:=(range l.length).map λk=>jQ (l.getD k En.ab) (V k 1);let pp:=jQ p (U 1);have hl:lp.length=l.length:=by simp[lp]
  have hg:∀k,k<l.length→lp.getD k En.ab=jQ (l.getD k En.ab) (V k 1):=λk hk=>by
   rw[getD_eq_getElem?_getD,getElem?_map,getElem?_range hk];rfl
  have hcs:∀k c,k<l.length→c<2→(En.cs (lp.getD k En.ab)).getD c .j= .v (V k c):=λk c hk hc=>by
   rw[hg k hk];exact qz _ (V k) (λc x hc=>h1 k c x hk hc) (λc n0 l g hc=>h2 k c n0 l g hk hc) c hc
  have hps:∀c,c<2→(En.cs pp).getD c .j= .v (U c):=qz p U h3 h4;have hkey:lp.map aK.f0=l.map ca.Name:=by
   conv=>rhs;rw[←ga l En.ab]
   rw[map_map,map_map];rfl
  have hc:=sa lp pp (by omega);have hX:wb U= .g [.v (iv pp.f0),.v (.slice pp.y7 pp.zf pp.zp)]:=by
   unfold wb;rw[←T.v.inj (hps 0 (by omega)),←T.v.inj (hps 1 (by omega))]
  rw[←hX,show tr lp= .s 2 l.length (λk c=>(En.cs (lp.getD k En.ab)).getD c .j)from congrArg (λm=>T.s 2 m λk c=>(En.cs (lp.getD k En.ab)).getD c .j) hl,show tr (bL aK.f0 lp pp)= .s 2 (l.length+1) (λk c=>(En.cs ((bL aK.f0 lp pp).getD k En.ab)).getD c .j)from congrArg (λm=>T.s 2 m λk c=>(En.cs ((bL aK.f0 lp pp).getD k En.ab)).getD c .j) (by rw[eM,hl])]at hc;refine⟨_,_,hcs,λk c hk hc=>?_,hc⟩;rw[fG,hkey,show aK.f0 pp=ca.Name p from rfl];split
  ·exact hcs k c (by omega) hc
  ·split
   ·exact hps c hc
   ·exact hcs (k-1) c (by omega) hc
end Go.Proofs.YtekcnnngjoonbaaGreat.VM

