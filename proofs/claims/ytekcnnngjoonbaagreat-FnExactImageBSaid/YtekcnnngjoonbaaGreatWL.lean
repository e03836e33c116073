/- Contracts. No conditions. -/
import Derived.Test.YtekcnnngjoonbaaGreatWE
import Derived.Test.YtekcnnngjoonbaaGreatWI
import Derived.Test.YtekcnnngjoonbaaGreatWK
set_option linter.all false
set_option maxHeartbeats 8000000
set_option maxRecDepth 10000
namespace Go.Proofs.YtekcnnngjoonbaaGreat.VM
open List Nat
open Go Go.RowKit Go.Proofs Go.Proofs.Tryz
theorem kW(P X S:List aJ)(xa xb:Int)(hxa:xa=(P.length:Nat))(hxb:xb=(P.length+X.length:Nat))(hl:(P++(X++S)).length≤4611686018427387904):a_ prog 174 [.h aa [],.v (iv xa),.v (iv xb),.f 50 []] [.rt aa .row (tr (P++(X++S)))] (ch (.t []) [] [(aa,tr (P++(ap aJ.f0 X++S)))]):=by
 subst hxa hxb;exact re P X S _ _ rfl rfl hl
theorem pN(P X:List aJ)(xa xb:Int)(hxa:xa=(P.length:Nat))(hxb:xb=(P.length+X.length:Nat))(hl:(P++X).length≤4611686018427387904):a_ prog 174 [.h aa [],.v (iv xa),.v (iv xb),.f 50 []] [.rt aa .row (tr (P++X))] (ch (.t []) [] [(aa,tr (P++ap aJ.f0 X))]):=by
 have h:=kW P X [] xa xb hxa hxb (by rw[append_nil];exact hl)
 rwa [append_nil,append_nil]at h
theorem mr:∀n,p6 n
 | 0=>λP X Y S xa xm xb _ _ _ h hx=>absurd h (by omega)
 | n+1=>λP X Y S xa xm xb ha hm hb h hx hy hX hY hl=>by
  subst ha hm hb;exact pF n (mr n) P X Y S _ _ _ rfl rfl rfl h hx hy hX hY hl
theorem kV(P X Y S:List aJ)(xa xm xb:Int)(ha:xa=(P.length:Nat))(hm:xm=(P.length+X.length:Nat))(hb:xb=(P.length+X.length+Y.length:Nat))(hx:0<X.length)(hy:0<Y.length)(hX:fS aJ.f0 X)(hY:fS aJ.f0 Y)(hl:P.length+X.length+Y.length+S.length≤2305843009213693952):a_ prog 175 [.h aa [],.v (iv xa),.v (iv xm),.v (iv xb),.f 50 []] [.rt aa .row (tr (aV P X Y S))] (ch (.t []) [] [(aa,tr (P++(ap aJ.f0 (X++Y)++S)))]):=
 mr (X.length+Y.length) P X Y S xa xm xb ha hm hb (Nat.le_refl _) hx hy hX hY hl
theorem nC(l:List aJ)(hl:l.length≤100000000):a_ prog 122 [.h aa [],.v (iv l.length),.f 50 []] [.rt aa .row (tr l)] (ch (.t []) [] [(aa,tr (ap aJ.f0 l))]):=by
 refine ob func122 ntmps122 ?_;refine go [.R,.a,.Z,.R,.m,.a,.N,.a,.Z] ?_;refine AW.seq (AW.block ?_);refine AW.aL (λi:BI 20 l.length=>[.sl 6 (.v (iv 20)),.sl 7 (.v (iv (i.a:Nat))),.sl 8 (.v (iv (i.a+20:Nat))),.sl 0 (.h aa []),.sl 1 (.v (iv (l.length:Nat))),.sl 2 (.f 50 []),.rt aa .row (tr ((cu aJ.f0 20 l i.k)++l.drop i.a))]) (λi=>l.length-i.a) ⟨0,0,rfl,zero_le _⟩ (ar.bb ⟨rfl,rfl,rfl,rfl,rfl,rfl,⟨_,rfl,(by rw[drop_zero];exact aw)⟩,trivial⟩ rfl rfl) ?_;intro i;have hia:=i.le;have hib:=fH aJ.f0 i;have hid:(l.drop i.a).length=l.length-i.a:=length_drop;refine go [.R2,.m,.m,.N,.b,.Z] ?_;refine cd (λc1=>?_) λc1=>?_
 ·try simp only[ah]at c1
  refine jd (AW.block (sr ?_));refine go [.m,.m,.N,.m,.m,.N] ?_;refine aB.bB aa (tr ((cu aJ.f0 20 l i.k)++((l.drop i.a).take 20++l.drop (i.a+20)))) rfl (bJ (by rw[←drop_drop,take_append_drop])) ?_;refine go [.N] ?_;refine sp (aE.bW rfl (by decide) call174 rfl (kW (cu aJ.f0 20 l i.k) ((l.drop i.a).take 20) (l.drop (i.a+20)) _ _ (by omega) (by rw[length_take];omega) (by simp only[length_append,length_take,length_drop];omega)) rfl rfl rfl (aj rfl) rfl rfl) ?_;refine go [.Z,.R,.m,.N,.a,.Z,.R1,.m,.m,.N,.b,.a,.Z] ?_;refine⟨⟨i.k+1,i.a+20,i.next,by omega⟩,ar.bb ⟨rfl,rfl,cT (by show _=((i.a+20+20:Nat):Int);omega),rfl,rfl,rfl,⟨_,rfl,bJ (by rw[cz aJ.f0 i,append_assoc])⟩,trivial⟩ rfl rfl,?_⟩;dsimp only;omega
 try simp only[ah]at c1
 refine AW.exit ?_;dsimp only[aD,au,reduceIte];refine go [.R,.m,.N,.m,.m,.m,.N] ?_;refine sp (aE.bW rfl (by decide) call174 rfl (pN (cu aJ.f0 20 l i.k) (l.drop i.a) _ _ (by omega) (by omega) (by rw[length_append];omega)) rfl rfl rfl (aj rfl) rfl rfl) ?_;have hin:=i.next;refine go [.N] ?_;refine aB.bB aa (tr (full aJ.f0 20 l)) rfl (bJ (by rw[←ef aJ.f0 (k:=i.k+1) (by omega) (by omega),cz aJ.f0 i,take_of_length_le (by omega)])) ?_;refine go [.Z] ?_;refine AW.block ?_;refine AW.aL (λq:QI l.length=>[.sl 6 (.v (iv (q.bs:Nat))),.sl 0 (.h aa []),.sl 1 (.v (iv (l.length:Nat))),.sl 2 (.f 50 []),.rt aa .row (tr (full aJ.f0 q.bs l))]) (λq=>l.length-q.bs) ⟨20,by omega,by omega⟩ (ws) ?_;intro q;have hq1:=q.h1;have hq2:=q.h2;refine go [.R2,.m,.N,.m,.b,.Z] ?_;refine cd (λc2=>?_) λc2=>?_
 ·try simp only[ah]at c2
  refine jd (AW.block (sr ?_));refine go [.m,.N] ?_;refine qq (Qt.binOp rfl rfl (by first|exact dM (by omega)|rfl)) ?_;refine go [.a,.a,.Z] ?_;refine AW.seq (AW.block ?_);refine AW.aL (λw:BI (q.bs+q.bs) l.length=>[.sl 6 (.v (iv (q.bs:Nat))),.sl 7 (.v (iv (w.a:Nat))),.sl 8 (.v (iv (w.a+(q.bs+q.bs):Nat))),.sl 0 (.h aa []),.sl 1 (.v (iv (l.length:Nat))),.sl 2 (.f 50 []),.rt aa .row (tr ((cu aJ.f0 (q.bs+q.bs) l w.k)++(full aJ.f0 q.bs (l.drop w.a))))]) (λw=>l.length-w.a) ⟨0,0,by simp,zero_le _⟩ (ar.bb ⟨rfl,rfl,cT (by(try dsimp only);omega),rfl,rfl,rfl,⟨_,rfl,bJ (by rw[drop_zero];rfl)⟩,trivial⟩ rfl rfl) ?_;intro w;have hwa:=w.le;have hwb:=fH aJ.f0 w;have hwd:(l.drop w.a).length=l.length-w.a:=length_drop;refine go [.R2,.m,.N,.m,.b,.Z] ?_;refine cd (λc3=>?_) λc3=>?_
  ·try simp only[ah]at c3
   have n1:(ap aJ.f0 ((l.drop w.a).take q.bs)).length=q.bs:=(by simp only[aU,length_take,length_drop]<;>omega)
   have n2:(ap aJ.f0 (((l.drop w.a).drop q.bs).take q.bs)).length=q.bs:=(by simp only[aU,length_take,length_drop]<;>omega)
   have n3:(full aJ.f0 q.bs ((l.drop w.a).drop (q.bs+q.bs))).length=l.length-w.a-(q.bs+q.bs):=by rw[mq aJ.f0 hq1,length_drop];omega
   refine jd (AW.block (sr ?_));refine go [.m,.N,.m,.m,.m,.N,.b,.m,.m,.N] ?_;refine aB.bB aa (tr (aV (cu aJ.f0 (q.bs+q.bs) l w.k) (ap aJ.f0 ((l.drop w.a).take q.bs)) (ap aJ.f0 (((l.drop w.a).drop q.bs).take q.bs)) (full aJ.f0 q.bs ((l.drop w.a).drop (q.bs+q.bs))))) rfl (bJ (by rw[lR aJ.f0 hq1];rfl)) ?_;refine go [.N] ?_;refine sp (aE.bW rfl (by decide) call175 rfl (kV (cu aJ.f0 (q.bs+q.bs) l w.k) (ap aJ.f0 ((l.drop w.a).take q.bs)) (ap aJ.f0 (((l.drop w.a).drop q.bs).take q.bs)) (full aJ.f0 q.bs ((l.drop w.a).drop (q.bs+q.bs))) _ _ _ (by omega) (by omega) (by omega) (by omega) (by omega) (cf _ _) (cf _ _) (by omega)) rfl rfl rfl (aj rfl) rfl rfl) ?_;refine go [.Z,.R,.m,.N,.a,.Z,.R1,.m,.m,.N] ?_;refine qq (Qt.binOp rfl rfl (by first|exact dM (by omega)|rfl)) ?_;refine go [.b,.a,.Z] ?_;refine⟨⟨w.k+1,w.a+(q.bs+q.bs),w.next,by omega⟩,ar.bb ⟨rfl,rfl,cT (by show _=((w.a+(q.bs+q.bs)+(q.bs+q.bs):Nat):Int);omega),rfl,rfl,rfl,⟨_,rfl,bJ (by rw[kP,cz aJ.f0 w,append_assoc,drop_drop])⟩,trivial⟩ rfl rfl,?_⟩;dsimp only;omega
  try simp only[ah]at c3
  have hwn:=w.next;have hful:(full aJ.f0 (q.bs+q.bs) l)=(cu aJ.f0 (q.bs+q.bs) l w.k)++ap aJ.f0 (l.drop w.a):=by
   rw[←ef aJ.f0 (k:=w.k+1) (by omega) (by omega),cz aJ.f0 w,take_of_length_le (by omega)]
  refine AW.exit ?_;dsimp only[aD,au,reduceIte];refine go [.R2,.m,.N,.m,.b,.a,.Z,.R,.m,.N,.m,.b,.Z] ?_;refine cd (λc4=>?_) λc4=>?_
  ·try simp only[ah]at c4
   have n1:(ap aJ.f0 ((l.drop w.a).take q.bs)).length=q.bs:=(by simp only[aU,length_take,length_drop]<;>omega)
   have n2:(ap aJ.f0 ((l.drop w.a).drop q.bs)).length=l.length-w.a-q.bs:=(by simp only[aU,length_take,length_drop]<;>omega)
   refine go [.R1,.m,.N,.m,.m,.m,.N,.m,.N] ?_;refine aB.bB aa (tr (aV (cu aJ.f0 (q.bs+q.bs) l w.k) (ap aJ.f0 ((l.drop w.a).take q.bs)) (ap aJ.f0 ((l.drop w.a).drop q.bs)) [])) rfl (bJ (by rw[gV aJ.f0 hq1,di aJ.f0 hq1 (by rw[length_drop];omega)];first|done|simp only[aV,append_nil])) ?_;refine go [.N] ?_;refine sp (aE.bW rfl (by decide) call175 rfl (kV (cu aJ.f0 (q.bs+q.bs) l w.k) (ap aJ.f0 ((l.drop w.a).take q.bs)) (ap aJ.f0 ((l.drop w.a).drop q.bs)) [] _ _ _ (by omega) (by omega) (by omega) (by omega) (by omega) (cf _ _) (cf _ _) (by simp only[length_nil];omega)) rfl rfl rfl (aj rfl) rfl rfl) ?_;refine go [.Z,.R1,.m,.N] ?_;refine qq (Qt.binOp rfl rfl (by first|exact dM (by omega)|rfl)) ?_;refine go [.a,.Z] ?_;have hfin:(cu aJ.f0 (q.bs+q.bs) l w.k)++ap aJ.f0 ((ap aJ.f0 ((l.drop w.a).take q.bs))++(ap aJ.f0 ((l.drop w.a).drop q.bs)))=(full aJ.f0 (q.bs+q.bs) l):=by rw[ju,take_append_drop,hful]
   refine⟨⟨q.bs+q.bs,by omega,by omega⟩,ar.bb ⟨cT (by show _=((q.bs+q.bs:Nat):Int);omega),rfl,rfl,rfl,⟨_,rfl,bJ hfin⟩,trivial⟩ rfl rfl,?_⟩;dsimp only;omega
  try simp only[ah]at c4
  refine go [.J,.R1,.m,.N] ?_;refine qq (Qt.binOp rfl rfl (by first|exact dM (by omega)|rfl)) ?_;refine go [.a,.Z] ?_;have hfin:(cu aJ.f0 (q.bs+q.bs) l w.k)++(full aJ.f0 q.bs (l.drop w.a))=(full aJ.f0 (q.bs+q.bs) l):=by rw[hful,di aJ.f0 hq1 (by omega)]
  refine⟨⟨q.bs+q.bs,by omega,by omega⟩,ar.bb ⟨cT (by show _=((q.bs+q.bs:Nat):Int);omega),rfl,rfl,rfl,⟨_,rfl,bJ hfin⟩,trivial⟩ rfl rfl,?_⟩;dsimp only;omega
 try simp only[ah]at c2
 refine AW.exit ?_;dsimp only[aD,au,reduceIte];have hf:(full aJ.f0 q.bs l)=ap aJ.f0 l:=di aJ.f0 hq1 (by omega);rw[←hf];refine⟨.inr rfl,[],.nil,?_⟩;refine⟨λn=>n,rfl,λ_ _=>rfl,nodup_nil,(by simp),?_⟩;intro p hp;cases List.mem_singleton.1 hp;exact aq rfl
theorem o7(l:List aJ)(hl:l.length≤100000000):a_ prog 49 [.h aa [],.f 50 []] [.rt aa .row (tr l)] (ch (.t []) [] [(aa,tr (ap aJ.f0 l))]):=by
 refine ob func49 ntmps49 ?_;refine go [.R1,.m,.m,.h,.N,.m] ?_;refine sp (aE.bW rfl (by decide) call122 rfl (nC l hl) rfl rfl rfl (aj rfl) rfl rfl) ?_;refine go [.Z] ?_;refine⟨.inr rfl,[],.nil,?_⟩;refine⟨λn=>n,rfl,λ_ _=>rfl,nodup_nil,(by simp),?_⟩;intro p hp;cases List.mem_singleton.1 hp;exact aq rfl
open Go Go.RowKit Go.Proofs Go.Proofs.Tryz
def jU(p:cK)(r1:Value):aJ:=⟨p.Id,(ls r1).1,(ls r1).2.1,(ls r1).2.2⟩
theorem nH(l:List cK)(hl:l.length≤100000000):a_ prog 49 [.h aa [],.f 50 []] [.rt aa .row (tr l)] (ch (.t []) [] [(aa,tr (ap cK.Id l))]):=
 oJ cK.Id aJ.f0 rfl rfl l (λV h1 h2 h3=>by
  have hg:∀k,k<l.length→((range l.length).map λk=>jU (l.getD k En.ab) (V k 1)).getD k En.ab=jU (l.getD k En.ab) (V k 1):=λk hk=>by
   rw[getD_eq_getElem?_getD,getElem?_map,getElem?_range hk];rfl
  refine⟨(range l.length).map λk=>jU (l.getD k En.ab) (V k 1),by simp,λk c hk hc=>?_,λk hk=>by rw[hg k hk];rfl⟩;rw[hg k hk]
  match c,hc with
  | 0,hc=>rw[h2 k 0 _ hk hc rfl];rfl
  | 1,hc=>obtain⟨a,cap,e⟩:=h3 k 1 _ _ _ hk hc rfl;rw[e];simp only[jU,e];rfl
  | c+2,hc=>exact absurd hc (by show ¬c+2<2;omega)) λlp hlp=>o7 lp (by omega)
open Go Go.RowKit Go.Proofs Go.Proofs.Tryz
theorem qO(p:cK)(U:Nat→Value)(h1:∀c x,c<2→(En.cs p).getD c .j= .v x→U c=x)(h2:∀c n0 l g,c<2→(En.cs p).getD c .j= .s n0 l g→∃a cap,U c= .slice a l cap):∀c,c<2→(En.cs (jU p (U 1))).getD c .j= .v (U c):=λc hc=>by
 match c,hc with
 | 0,hc=>rw[h1 0 _ hc rfl];rfl
 | 1,hc=>obtain⟨a,cap,e⟩:=h2 1 _ _ _ hc rfl;rw[e];simp only[jU,e];rfl
 | c+2,hc=>exact absurd hc (by omega)
def AE:Nat→Option Nat
 | 1=>some (aa+1)
 | _=>none
def vO(U:Nat→Value):X:= .g [.v (U 0),.v (U 1)]
theorem pv(l:List cK)(p:cK)(hs:l.length≤2000000):a_ prog 99 [.h aa [],.g [.v (iv p.Id),.h (aa+1) []]] [.rt aa .row (tr l),.rt (aa+1) .row (tr p.Data)] (ch (.h 0 []) [(0,.row,tr (bL cK.Id l p))] [(aa,.j),(aa+1,.j)]):=by
 have hle:=ku (l.map cK.Id) (cK.Id p);rw[length_map]at hle;have eT:tr (bL cK.Id l p)= .s 2 (l.length+1) λk c=>if k<eO (l.map cK.Id) (cK.Id p)then(En.cs (l.getD k En.ab)).getD c .j else if k=eO (l.map cK.Id) (cK.Id p)then(En.cs p).getD c .j else(En.cs (l.getD (k-1) En.ab)).getD c .j:=by
  show T.s 2 (bL cK.Id l p).length (λk c=>(En.cs ((bL cK.Id l p).getD k En.ab)).getD c .j)=_;rw[eM];congr 1;funext k c;rw[fG];split
  ·rfl
  ·split<;>rfl
 rw[eT];refine mx (gT:=λc=>(En.cs p).getD c .j) (fT:=λk c=>(En.cs (l.getD k En.ab)).getD c .j) AE [aa+1] _ (eO (l.map cK.Id) (cK.Id p)) hle vO (λid m t h=>?_) (λid h=>?_) (λc id hc h=>?_) (λc c' id hc hc' h h'=>?_) (λR H w vp h=>?_) λV U h1 h2 h3 h4=>?_
 ·simp only[aW,mem_cons,not_mem_nil,or_false,E.rt.injEq]at h;rcases h with⟨rfl,_⟩<;>omega
 ·simp only[mem_cons,not_mem_nil,or_false]at h;rcases h with rfl
  exact⟨by omega,_,mem_cons_self ..⟩
 ·match c,hc,h with
  | 1,_,h=>cases h;exact mem_cons_self ..
 ·match c,c',h,h' with
  | 1,1,_,_=>rfl
 ·obtain⟨vs,e,h⟩:=h
  match vs,h with
  | [u0,u1],⟨e0,⟨_,_,_,_,_,q1⟩,_⟩=>
  simp only[hd,Option.some.injEq]at q1;obtain rfl:u0=_:=e0;refine⟨λc=>[iv p.Id,u1].getD c undef,λR' H' w'=>⟨_,e,rfl,rfl,trivial⟩,λc hc=>?_⟩
  match c,hc with
  | 0,_=>exact⟨λ_=>⟨rfl,rfl⟩,λid h=>by cases h⟩
  | 1,_=>exact⟨λh=>(by cases h),λid h=>by cases h;exact q1.symm⟩
  | c+2,hc=>exact absurd (show c+2<2 from hc) (by omega)
 ·let lp:=(range l.length).map λk=>jU (l.getD k En.ab) (V k 1);let pp:=jU p (U 1);have hl:lp.length=l.length:=by simp[lp]
  have hg:∀k,k<l.length→lp.getD k En.ab=jU (l.getD k En.ab) (V k 1):=λk hk=>by
   rw[getD_eq_getElem?_getD,getElem?_map,getElem?_range hk];rfl
  have hcs:∀k c,k<l.length→c<2→(En.cs (lp.getD k En.ab)).getD c .j= .v (V k c):=λk c hk hc=>by
   rw[hg k hk];exact qO _ (V k) (λc x hc=>h1 k c x hk hc) (λc n0 l g hc=>h2 k c n0 l g hk hc) c hc
  have hps:∀c,c<2→(En.cs pp).getD c .j= .v (U c):=qO p U h3 h4;have hkey:lp.map aJ.f0=l.map cK.Id:=by
   conv=>rhs;rw[←ga l En.ab]
   rw[map_map,map_map];rfl
  have hc:=rH lp pp (by omega);have hX:vO U= .g [.v (iv pp.f0),.v (.slice pp.y7 pp.zf pp.zp)]:=by
   unfold vO;rw[←T.v.inj (hps 0 (by omega)),←T.v.inj (hps 1 (by omega))]
  rw[←hX,show tr lp= .s 2 l.length (λk c=>(En.cs (lp.getD k En.ab)).getD c .j)from congrArg (λm=>T.s 2 m λk c=>(En.cs (lp.getD k En.ab)).getD c .j) hl,show tr (bL aJ.f0 lp pp)= .s 2 (l.length+1) (λk c=>(En.cs ((bL aJ.f0 lp pp).getD k En.ab)).getD c .j)from congrArg (λm=>T.s 2 m λk c=>(En.cs ((bL aJ.f0 lp pp).getD k En.ab)).getD c .j) (by rw[eM,hl])]at hc;refine⟨_,_,hcs,λk c hk hc=>?_,hc⟩;rw[fG,hkey,show aJ.f0 pp=cK.Id p from rfl];split
  ·exact hcs k c (by omega) hc
  ·split
   ·exact hps c hc
   ·exact hcs (k-1) c (by omega) hc
open Go Go.RowKit Go.Proofs Go.Proofs.Tryz
structure aK where
 f0:Int
 y7:Option Addr
 zf:Nat
 zp:Nat
instance:En aK:=⟨2,by omega,λa=>[.v (iv a.f0),.v (.slice a.y7 a.zf a.zp)],λ_=>rfl,λ_=>True,⟨0,none,0,0⟩⟩
@[go_sem] theorem C3(a:aK):En.cs a=[.v (iv a.f0),.v (.slice a.y7 a.zf a.zp)]:=rfl
theorem iW(a b:aK):a_ prog 52 [.g [.v (iv a.f0),.c],.g [.v (iv b.f0),.c]] [] (λy _=>y= .v (iv (mH (aK.f0 a) (aK.f0 b)))):=by
 refine ob func52 ntmps52 ?_;refine go [.R,.B,.N,.B,.N,.a,.Z,.R,.f,.l,.N,.f,.l] ?_;refine cv call48 rfl rfl (km _ _) ?_;refine go [.N,.a,.Z] ?_;refine aQ 4 ?_;rfl
open Go Go.RowKit Go.Proofs Go.Proofs.Tryz
theorem sa(l:List aK)(p:aK)(hs:l.length≤2000000):a_ prog 101 [.h aa [],.g [.v (iv p.f0),.v (.slice p.y7 p.zf p.zp)]] [.rt aa .ro (tr l)] (j6 (.h 0 []) [(0,.row,tr (bL aK.f0 l p))]):=by
 refine ob func101 ntmps101 ?_;refine go [.R] ?_;refine sp (aE.Ax (replicate 2 .j) rfl (by decide) (by decide) rfl rfl (by rfl) rfl rfl) ?_;refine go [.N,.a,.Z,.R,.S,.N,.a,.Z,.R,.a,.Z,.R2,.a,.Z] ?_;refine AW.block ?_;refine AW.ke 8 37 rfl (by decide) (by decide) ?_;refine AW.aL (λi:cV l.length=>[.sl 7 (.v (iv i.k)),.sl 6 (.v (.bool (dp aK.f0 l p i.k))),.sl 5 (.h 37 []),.sl 3 (.p 3 [] 2 0 0),.sl 0 (.h aa []),.rt 3 .box (T.s 2 1 λk c=>([(T.v (iv p.f0),none),(T.v (.slice p.y7 p.zf p.zp),none)].getD (k*2+c) (T.j,none)).fst),.rt aa .ro (tr l),.rt 37 .row (tr (cB aK.f0 l p i.k))]) (λi=>l.length-i.k) ⟨0,zero_le _⟩ (ar.bb ⟨rfl,rfl,rfl,rfl,rfl,Rf rfl,Rf rfl,⟨_,rfl,bK⟩,trivial⟩ rfl rfl) ?_;intro i;have hle:=i.le;have hil:=lY (key:=aK.f0) (l:=l) (p:=p) (k:=i.k);refine go [.R2,.m,.N,.m,.h,.b,.Z] ?_;refine cd (λc1=>?_) λc1=>?_
 ·try simp only[ah]at c1
  refine jd (AW.seq (AW.block (AW.seq (AW.seq ?_))));refine go [.D [0,1,2,3,4,5,6,7,8,9,10,11],.t 0,.m,.N,.t 1,.n,.t 2,.m] ?_;refine aO.split 17 rfl (λg2=>?_) (λg2=>?_)
  ·refine go [.t 3,.m,.N,.t 4,.m,.t 5,.i,.t 6,.f,.N,.t 7,.l,.t 8,.f,.t 9,.l,.N,.t 10,.b] ?_;refine tk 11 rfl (Qt.bj rfl g2) ?_;refine go [.Z] ?_;refine cd (λc3=>?_) λc3=>?_
   ·try simp only[ah]at c3
    have hq:dp aK.f0 l p i.k=false:=by simpa using ‹(!dp aK.f0 l p i.k)=true›
    have hc:aK.f0 p<aK.f0 (l.getD i.k En.ab):=by have hk:=c3;omega
    refine go [.R,.m,.N,.G] ?_;refine sp (aE.bO (replicate 2 .j) rfl (by decide) (by decide) rfl (by decide) rfl (by rfl) rfl rfl (aj rfl)) ?_;refine go [.N] ?_;refine aB.bB 29 (tr [p]) rfl (cb (α:=aK) (λc hc=>match c,hc with|0,_=>aw|1,_=>aw|c+2,hc=>absurd hc (by simp only[En.n];omega))) ?_;refine go [.N] ?_;refine sp (aE.bc rfl (by decide) (by decide) rfl rfl rfl (by simp only[length_cons,length_nil,length_append];omega)) ?_;refine go [.N] ?_;refine aB.bB 30 (tr (cB aK.f0 l p i.k++[p])) rfl (cj (l:=cB aK.f0 l p i.k) (l':=[p]) rfl (λ_ _ _ _=>rfl) (λ_ _ _ _=>rfl)) ?_;refine go [.N,.a,.Z,.R1,.a] ?_;refine aB.bS (ar.slot (d:=6) (v':= .bool (dp aK.f0 l p (i.k+1))) rfl (congrArg Value.bool (by rw[da (by omega),hq,decide_eq_true hc];rfl))) ?_;refine go [.Z,.R1,.m,.N,.m,.m,.i,.N,.G] ?_;refine sp (aE.bO (replicate 2 .j) rfl (by decide) (by decide) rfl (by decide) rfl (by rfl) rfl rfl (aj rfl)) ?_;refine go [.N] ?_;refine aB.bB 36 (tr [(l.getD i.k En.ab)]) rfl (cb (α:=aK) (λc hc=>match c,hc with|0,_=>aw|1,_=>aw|c+2,hc=>absurd hc (by simp only[En.n];omega))) ?_;refine go [.N] ?_;refine sp (aE.bc rfl (by decide) (by decide) rfl rfl rfl (by simp only[length_cons,length_nil,length_append];omega)) ?_;refine go [.N] ?_;refine aB.bB 37 (tr (cB aK.f0 l p (i.k+1))) rfl (by rw[l4 (by omega) hq hc];exact cj (l:=cB aK.f0 l p i.k++[p]) (l':=[(l.getD i.k En.ab)]) rfl (λ_ _ _ _=>rfl) (λ_ _ _ _=>rfl)) ?_;refine go [.N,.a,.Z,.R1,.m,.b,.N,.a,.Z] ?_;refine⟨⟨i.k+1,by omega⟩,ws,?_⟩;show l.length-(i.k+1)<l.length-i.k;omega
   try simp only[ah]at c3
   have hq:dp aK.f0 l p i.k=false:=by simpa using ‹(!dp aK.f0 l p i.k)=true›
   have hc:¬aK.f0 p<aK.f0 (l.getD i.k En.ab):=by have hk:=c3;omega
   refine go [.J,.R1,.m,.m,.N,.m,.i,.G,.N] ?_;refine sp (aE.bO (replicate 2 .j) rfl (by decide) (by decide) rfl (by decide) rfl (by rfl) rfl rfl (aj rfl)) ?_;refine go [.N] ?_;refine aB.bB 36 (tr [(l.getD i.k En.ab)]) rfl (cb (α:=aK) (λc hc=>match c,hc with|0,_=>aw|1,_=>aw|c+2,hc=>absurd hc (by simp only[En.n];omega))) ?_;refine go [.N] ?_;refine sp (aE.bc rfl (by decide) (by decide) rfl rfl rfl (by simp only[length_cons,length_nil,length_append];omega)) ?_;refine go [.N] ?_;refine aB.bB 37 (tr (cB aK.f0 l p (i.k+1))) rfl (by rw[ma (by omega) hq hc];exact cj (l:=cB aK.f0 l p i.k) (l':=[(l.getD i.k En.ab)]) rfl (λ_ _ _ _=>rfl) (λ_ _ _ _=>rfl)) ?_;refine go [.N,.a] ?_;refine aB.bS (ar.slot (d:=6) (v':= .bool (dp aK.f0 l p (i.k+1))) rfl (congrArg Value.bool (by rw[da (by omega),hq,decide_eq_false hc];rfl))) ?_;refine go [.Z,.R1,.m,.N,.b,.a,.Z] ?_;refine⟨⟨i.k+1,by omega⟩,ws,?_⟩;show l.length-(i.k+1)<l.length-i.k;omega
  refine go [.t 3,.x,.N,.t 4,.x,.t 5,.x,.t 6,.x,.N,.t 7,.x,.t 8,.x,.t 9,.x,.N,.t 10,.x] ?_;refine tk 11 rfl (Qt.bd rfl g2) ?_;refine go [.Z] ?_;refine AW.cond rfl (λc4=>(by cases c4)) (λc4=>?_)
  try simp only[ah]at c4
  have hq:dp aK.f0 l p i.k=true:=by simpa using ‹(!dp aK.f0 l p i.k)=false›
  refine go [.J,.R1,.m,.N,.m,.m,.i,.N,.G] ?_;refine sp (aE.bO (replicate 2 .j) rfl (by decide) (by decide) rfl (by decide) rfl (by rfl) rfl rfl (aj rfl)) ?_;refine go [.N] ?_;refine aB.bB 36 (tr [(l.getD i.k En.ab)]) rfl (cb (α:=aK) (λc hc=>match c,hc with|0,_=>aw|1,_=>aw|c+2,hc=>absurd hc (by simp only[En.n];omega))) ?_;refine go [.N] ?_;refine sp (aE.bc rfl (by decide) (by decide) rfl rfl rfl (by simp only[length_cons,length_nil,length_append];omega)) ?_;refine go [.N] ?_;refine aB.bB 37 (tr (cB aK.f0 l p (i.k+1))) rfl (by rw[mh (by omega) hq];exact cj (l:=cB aK.f0 l p i.k) (l':=[(l.getD i.k En.ab)]) rfl (λ_ _ _ _=>rfl) (λ_ _ _ _=>rfl)) ?_;refine go [.N,.a] ?_;refine aB.bS (ar.slot (d:=6) (v':= .bool (dp aK.f0 l p (i.k+1))) rfl (congrArg Value.bool (by rw[da (by omega),hq];rfl))) ?_;refine go [.Z,.R1,.m,.N,.b,.a,.Z] ?_;refine⟨⟨i.k+1,by omega⟩,ws,?_⟩;show l.length-(i.k+1)<l.length-i.k;omega
 try simp only[ah]at c1
 refine AW.exit ?_;dsimp only[aD,au,reduceIte];refine go [.R2,.m,.N,.n,.Z] ?_;refine cd (λc5=>?_) λc5=>?_
 ·try simp only[ah]at c5
  refine go [.R1,.m,.G,.N] ?_;refine sp (aE.bO (replicate 2 .j) rfl (by decide) (by decide) rfl (by decide) rfl (by rfl) rfl rfl (aj rfl)) ?_;refine go [.N] ?_;refine aB.bB 42 (tr [p]) rfl (cb (α:=aK) (λc hc=>match c,hc with|0,_=>aw|1,_=>aw|c+2,hc=>absurd hc (by simp only[En.n];omega))) ?_;refine go [.N] ?_;refine sp (aE.bc rfl (by decide) (by decide) rfl rfl rfl (by simp only[length_cons,length_nil,length_append];omega)) ?_;refine go [.N] ?_;refine aB.bB 43 (tr (cB aK.f0 l p i.k++[p])) rfl (cj (l:=cB aK.f0 l p i.k) (l':=[p]) rfl (λ_ _ _ _=>rfl) (λ_ _ _ _=>rfl)) ?_;refine go [.N,.a,.Z,.R,.m,.a,.Z] ?_;refine aQ 4 ?_;rw[show bL aK.f0 l p=cB aK.f0 l p i.k++[p]from by rw[gq (k:=i.k) (by omega) (by omega),if_neg (by simpa using c5)]];refine⟨λ_=>43,rfl,aj rfl,?_⟩;intro r hr;cases List.mem_singleton.1 hr;exact⟨by simp,aq rfl⟩
 try simp only[ah]at c5
 refine go [.J,.R,.m,.N,.a,.Z] ?_;refine aQ 4 ?_;rw[show bL aK.f0 l p=cB aK.f0 l p i.k from by rw[gq (k:=i.k) (by omega) (by omega),if_pos (by simpa using c5)]];refine⟨λ_=>37,rfl,aj rfl,?_⟩;intro r hr;cases List.mem_singleton.1 hr;exact⟨by simp,aq rfl⟩
end Go.Proofs.YtekcnnngjoonbaaGreat.VM

