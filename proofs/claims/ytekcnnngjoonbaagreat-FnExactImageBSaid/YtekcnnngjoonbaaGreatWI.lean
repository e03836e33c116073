/- Contracts. No conditions. -/
import Derived.Test.YtekcnnngjoonbaaGreatWE
import Derived.Test.YtekcnnngjoonbaaGreatWF
import Derived.Test.YtekcnnngjoonbaaGreatWH
set_option linter.all false
set_option maxHeartbeats 8000000
set_option maxRecDepth 10000
namespace Go.Proofs.YtekcnnngjoonbaaGreat.VM
open List Nat
open Go Go.RowKit Go.Proofs Go.Proofs.Tryz
theorem k_(P X S:List az)(xa xb:Int)(hxa:xa=(P.length:Nat))(hxb:xb=(P.length+X.length:Nat))(hl:(P++(X++S)).length≤4611686018427387904):a_ prog 172 [.h aa [],.v (iv xa),.v (iv xb),.f 47 []] [.rt aa .row (tr (P++(X++S)))] (ch (.t []) [] [(aa,tr (P++(ap az.Id X++S)))]):=by
 subst hxa hxb;exact rr P X S _ _ rfl rfl hl
theorem pT(P X:List az)(xa xb:Int)(hxa:xa=(P.length:Nat))(hxb:xb=(P.length+X.length:Nat))(hl:(P++X).length≤4611686018427387904):a_ prog 172 [.h aa [],.v (iv xa),.v (iv xb),.f 47 []] [.rt aa .row (tr (P++X))] (ch (.t []) [] [(aa,tr (P++ap az.Id X))]):=by
 have h:=k_ P X [] xa xb hxa hxb (by rw[append_nil];exact hl)
 rwa [append_nil,append_nil]at h
theorem mf:∀n,qX n
 | 0=>λP X Y S xa xm xb _ _ _ h hx=>absurd h (by omega)
 | n+1=>λP X Y S xa xm xb ha hm hb h hx hy hX hY hl=>by
  subst ha hm hb;exact pP n (mf n) P X Y S _ _ _ rfl rfl rfl h hx hy hX hY hl
theorem kZ(P X Y S:List az)(xa xm xb:Int)(ha:xa=(P.length:Nat))(hm:xm=(P.length+X.length:Nat))(hb:xb=(P.length+X.length+Y.length:Nat))(hx:0<X.length)(hy:0<Y.length)(hX:fS az.Id X)(hY:fS az.Id Y)(hl:P.length+X.length+Y.length+S.length≤2305843009213693952):a_ prog 173 [.h aa [],.v (iv xa),.v (iv xm),.v (iv xb),.f 47 []] [.rt aa .row (tr (aV P X Y S))] (ch (.t []) [] [(aa,tr (P++(ap az.Id (X++Y)++S)))]):=
 mf (X.length+Y.length) P X Y S xa xm xb ha hm hb (Nat.le_refl _) hx hy hX hY hl
theorem nD(l:List az)(hl:l.length≤100000000):a_ prog 121 [.h aa [],.v (iv l.length),.f 47 []] [.rt aa .row (tr l)] (ch (.t []) [] [(aa,tr (ap az.Id l))]):=by
 refine ob func121 ntmps121 ?_;refine go [.R,.a,.Z,.R,.m,.a,.N,.a,.Z] ?_;refine AW.seq (AW.block ?_);refine AW.aL (λi:BI 20 l.length=>[.sl 6 (.v (iv 20)),.sl 7 (.v (iv (i.a:Nat))),.sl 8 (.v (iv (i.a+20:Nat))),.sl 0 (.h aa []),.sl 1 (.v (iv (l.length:Nat))),.sl 2 (.f 47 []),.rt aa .row (tr ((cu az.Id 20 l i.k)++l.drop i.a))]) (λi=>l.length-i.a) ⟨0,0,rfl,zero_le _⟩ (ar.bb ⟨rfl,rfl,rfl,rfl,rfl,rfl,⟨_,rfl,(by rw[drop_zero];exact aw)⟩,trivial⟩ rfl rfl) ?_;intro i;have hia:=i.le;have hib:=fH az.Id i;have hid:(l.drop i.a).length=l.length-i.a:=length_drop;refine go [.R2,.m,.m,.N,.b,.Z] ?_;refine cd (λc1=>?_) λc1=>?_
 ·try simp only[ah]at c1
  refine jd (AW.block (sr ?_));refine go [.m,.m,.N,.m,.m,.N] ?_;refine aB.bB aa (tr ((cu az.Id 20 l i.k)++((l.drop i.a).take 20++l.drop (i.a+20)))) rfl (bJ (by rw[←drop_drop,take_append_drop])) ?_;refine go [.N] ?_;refine sp (aE.bW rfl (by decide) call172 rfl (k_ (cu az.Id 20 l i.k) ((l.drop i.a).take 20) (l.drop (i.a+20)) _ _ (by omega) (by rw[length_take];omega) (by simp only[length_append,length_take,length_drop];omega)) rfl rfl rfl (aj rfl) rfl rfl) ?_;refine go [.Z,.R,.m,.N,.a,.Z,.R1,.m,.m,.N,.b,.a,.Z] ?_;refine⟨⟨i.k+1,i.a+20,i.next,by omega⟩,ar.bb ⟨rfl,rfl,cT (by show _=((i.a+20+20:Nat):Int);omega),rfl,rfl,rfl,⟨_,rfl,bJ (by rw[cz az.Id i,append_assoc])⟩,trivial⟩ rfl rfl,?_⟩;dsimp only;omega
 try simp only[ah]at c1
 refine AW.exit ?_;dsimp only[aD,au,reduceIte];refine go [.R,.m,.N,.m,.m,.m,.N] ?_;refine sp (aE.bW rfl (by decide) call172 rfl (pT (cu az.Id 20 l i.k) (l.drop i.a) _ _ (by omega) (by omega) (by rw[length_append];omega)) rfl rfl rfl (aj rfl) rfl rfl) ?_;have hin:=i.next;refine go [.N] ?_;refine aB.bB aa (tr (full az.Id 20 l)) rfl (bJ (by rw[←ef az.Id (k:=i.k+1) (by omega) (by omega),cz az.Id i,take_of_length_le (by omega)])) ?_;refine go [.Z] ?_;refine AW.block ?_;refine AW.aL (λq:QI l.length=>[.sl 6 (.v (iv (q.bs:Nat))),.sl 0 (.h aa []),.sl 1 (.v (iv (l.length:Nat))),.sl 2 (.f 47 []),.rt aa .row (tr (full az.Id q.bs l))]) (λq=>l.length-q.bs) ⟨20,by omega,by omega⟩ (ws) ?_;intro q;have hq1:=q.h1;have hq2:=q.h2;refine go [.R2,.m,.N,.m,.b,.Z] ?_;refine cd (λc2=>?_) λc2=>?_
 ·try simp only[ah]at c2
  refine jd (AW.block (sr ?_));refine go [.m,.N] ?_;refine qq (Qt.binOp rfl rfl (by first|exact dM (by omega)|rfl)) ?_;refine go [.a,.a,.Z] ?_;refine AW.seq (AW.block ?_);refine AW.aL (λw:BI (q.bs+q.bs) l.length=>[.sl 6 (.v (iv (q.bs:Nat))),.sl 7 (.v (iv (w.a:Nat))),.sl 8 (.v (iv (w.a+(q.bs+q.bs):Nat))),.sl 0 (.h aa []),.sl 1 (.v (iv (l.length:Nat))),.sl 2 (.f 47 []),.rt aa .row (tr ((cu az.Id (q.bs+q.bs) l w.k)++(full az.Id q.bs (l.drop w.a))))]) (λw=>l.length-w.a) ⟨0,0,by simp,zero_le _⟩ (ar.bb ⟨rfl,rfl,cT (by(try dsimp only);omega),rfl,rfl,rfl,⟨_,rfl,bJ (by rw[drop_zero];rfl)⟩,trivial⟩ rfl rfl) ?_;intro w;have hwa:=w.le;have hwb:=fH az.Id w;have hwd:(l.drop w.a).length=l.length-w.a:=length_drop;refine go [.R2,.m,.N,.m,.b,.Z] ?_;refine cd (λc3=>?_) λc3=>?_
  ·try simp only[ah]at c3
   have n1:(ap az.Id ((l.drop w.a).take q.bs)).length=q.bs:=(by simp only[aU,length_take,length_drop]<;>omega)
   have n2:(ap az.Id (((l.drop w.a).drop q.bs).take q.bs)).length=q.bs:=(by simp only[aU,length_take,length_drop]<;>omega)
   have n3:(full az.Id q.bs ((l.drop w.a).drop (q.bs+q.bs))).length=l.length-w.a-(q.bs+q.bs):=by rw[mq az.Id hq1,length_drop];omega
   refine jd (AW.block (sr ?_));refine go [.m,.N,.m,.m,.m,.N,.b,.m,.m,.N] ?_;refine aB.bB aa (tr (aV (cu az.Id (q.bs+q.bs) l w.k) (ap az.Id ((l.drop w.a).take q.bs)) (ap az.Id (((l.drop w.a).drop q.bs).take q.bs)) (full az.Id q.bs ((l.drop w.a).drop (q.bs+q.bs))))) rfl (bJ (by rw[lR az.Id hq1];rfl)) ?_;refine go [.N] ?_;refine sp (aE.bW rfl (by decide) call173 rfl (kZ (cu az.Id (q.bs+q.bs) l w.k) (ap az.Id ((l.drop w.a).take q.bs)) (ap az.Id (((l.drop w.a).drop q.bs).take q.bs)) (full az.Id q.bs ((l.drop w.a).drop (q.bs+q.bs))) _ _ _ (by omega) (by omega) (by omega) (by omega) (by omega) (cf _ _) (cf _ _) (by omega)) rfl rfl rfl (aj rfl) rfl rfl) ?_;refine go [.Z,.R,.m,.N,.a,.Z,.R1,.m,.m,.N] ?_;refine qq (Qt.binOp rfl rfl (by first|exact dM (by omega)|rfl)) ?_;refine go [.b,.a,.Z] ?_;refine⟨⟨w.k+1,w.a+(q.bs+q.bs),w.next,by omega⟩,ar.bb ⟨rfl,rfl,cT (by show _=((w.a+(q.bs+q.bs)+(q.bs+q.bs):Nat):Int);omega),rfl,rfl,rfl,⟨_,rfl,bJ (by rw[kP,cz az.Id w,append_assoc,drop_drop])⟩,trivial⟩ rfl rfl,?_⟩;dsimp only;omega
  try simp only[ah]at c3
  have hwn:=w.next;have hful:(full az.Id (q.bs+q.bs) l)=(cu az.Id (q.bs+q.bs) l w.k)++ap az.Id (l.drop w.a):=by
   rw[←ef az.Id (k:=w.k+1) (by omega) (by omega),cz az.Id w,take_of_length_le (by omega)]
  refine AW.exit ?_;dsimp only[aD,au,reduceIte];refine go [.R2,.m,.N,.m,.b,.a,.Z,.R,.m,.N,.m,.b,.Z] ?_;refine cd (λc4=>?_) λc4=>?_
  ·try simp only[ah]at c4
   have n1:(ap az.Id ((l.drop w.a).take q.bs)).length=q.bs:=(by simp only[aU,length_take,length_drop]<;>omega)
   have n2:(ap az.Id ((l.drop w.a).drop q.bs)).length=l.length-w.a-q.bs:=(by simp only[aU,length_take,length_drop]<;>omega)
   refine go [.R1,.m,.N,.m,.m,.m,.N,.m,.N] ?_;refine aB.bB aa (tr (aV (cu az.Id (q.bs+q.bs) l w.k) (ap az.Id ((l.drop w.a).take q.bs)) (ap az.Id ((l.drop w.a).drop q.bs)) [])) rfl (bJ (by rw[gV az.Id hq1,di az.Id hq1 (by rw[length_drop];omega)];first|done|simp only[aV,append_nil])) ?_;refine go [.N] ?_;refine sp (aE.bW rfl (by decide) call173 rfl (kZ (cu az.Id (q.bs+q.bs) l w.k) (ap az.Id ((l.drop w.a).take q.bs)) (ap az.Id ((l.drop w.a).drop q.bs)) [] _ _ _ (by omega) (by omega) (by omega) (by omega) (by omega) (cf _ _) (cf _ _) (by simp only[length_nil];omega)) rfl rfl rfl (aj rfl) rfl rfl) ?_;refine go [.Z,.R1,.m,.N] ?_;refine qq (Qt.binOp rfl rfl (by first|exact dM (by omega)|rfl)) ?_;refine go [.a,.Z] ?_;have hfin:(cu az.Id (q.bs+q.bs) l w.k)++ap az.Id ((ap az.Id ((l.drop w.a).take q.bs))++(ap az.Id ((l.drop w.a).drop q.bs)))=(full az.Id (q.bs+q.bs) l):=by rw[ju,take_append_drop,hful]
   refine⟨⟨q.bs+q.bs,by omega,by omega⟩,ar.bb ⟨cT (by show _=((q.bs+q.bs:Nat):Int);omega),rfl,rfl,rfl,⟨_,rfl,bJ hfin⟩,trivial⟩ rfl rfl,?_⟩;dsimp only;omega
  try simp only[ah]at c4
  refine go [.J,.R1,.m,.N] ?_;refine qq (Qt.binOp rfl rfl (by first|exact dM (by omega)|rfl)) ?_;refine go [.a,.Z] ?_;have hfin:(cu az.Id (q.bs+q.bs) l w.k)++(full az.Id q.bs (l.drop w.a))=(full az.Id (q.bs+q.bs) l):=by rw[hful,di az.Id hq1 (by omega)]
  refine⟨⟨q.bs+q.bs,by omega,by omega⟩,ar.bb ⟨cT (by show _=((q.bs+q.bs:Nat):Int);omega),rfl,rfl,rfl,⟨_,rfl,bJ hfin⟩,trivial⟩ rfl rfl,?_⟩;dsimp only;omega
 try simp only[ah]at c2
 refine AW.exit ?_;dsimp only[aD,au,reduceIte];have hf:(full az.Id q.bs l)=ap az.Id l:=di az.Id hq1 (by omega);rw[←hf];refine⟨.inr rfl,[],.nil,?_⟩;refine⟨λn=>n,rfl,λ_ _=>rfl,nodup_nil,(by simp),?_⟩;intro p hp;cases List.mem_singleton.1 hp;exact aq rfl
theorem oy(l:List az)(hl:l.length≤100000000):a_ prog 46 [.h aa [],.f 47 []] [.rt aa .row (tr l)] (ch (.t []) [] [(aa,tr (ap az.Id l))]):=by
 refine ob func46 ntmps46 ?_;refine go [.R1,.m,.m,.h,.N,.m] ?_;refine sp (aE.bW rfl (by decide) call121 rfl (nD l hl) rfl rfl rfl (aj rfl) rfl rfl) ?_;refine go [.Z] ?_;refine⟨.inr rfl,[],.nil,?_⟩;refine⟨λn=>n,rfl,λ_ _=>rfl,nodup_nil,(by simp),?_⟩;intro p hp;cases List.mem_singleton.1 hp;exact aq rfl
open Go Go.RowKit Go.Proofs Go.Proofs.Tryz
theorem nK(l:List az)(hl:l.length≤100000000):a_ prog 46 [.h aa [],.f 47 []] [.rt aa .row (tr l)] (ch (.t []) [] [(aa,tr (ap az.Id l))]):=
 oy l hl
open Go Go.RowKit Go.Proofs Go.Proofs.Tryz
def sd(p:az):az:=p
theorem qK(p:az)(U:Nat→Value)(h1:∀c x,c<5→(En.cs p).getD c .j= .v x→U c=x)(h2:∀c n0 l g,c<5→(En.cs p).getD c .j= .s n0 l g→∃a cap,U c= .slice a l cap):∀c,c<5→(En.cs (sd p )).getD c .j= .v (U c):=λc hc=>by
 match c,hc with
 | 0,hc=>rw[h1 0 _ hc rfl];rfl
 | 1,hc=>rw[h1 1 _ hc rfl];rfl
 | 2,hc=>rw[h1 2 _ hc rfl];rfl
 | 3,hc=>rw[h1 3 _ hc rfl];rfl
 | 4,hc=>rw[h1 4 _ hc rfl];rfl
 | c+5,hc=>exact absurd hc (by omega)
def Az:Nat→Option Nat
 | _=>none
def vn(U:Nat→Value):X:= .g [.v (U 0),.v (U 1),.v (U 2),.v (U 3),.v (U 4)]
theorem pj(l:List az)(p:az)(hs:l.length≤2000000):a_ prog 98 [.h aa [],.g [.v (iv p.Id),.v (iv p.Kind),.v (iv p.Target),.v (iv p.j3),.v (iv p.fc)]] [.rt aa .row (tr l)] (ch (.h 0 []) [(0,.row,tr (bL az.Id l p))] [(aa,.j)]):=by
 have hle:=ku (l.map az.Id) (az.Id p);rw[length_map]at hle;have eT:tr (bL az.Id l p)= .s 5 (l.length+1) λk c=>if k<eO (l.map az.Id) (az.Id p)then(En.cs (l.getD k En.ab)).getD c .j else if k=eO (l.map az.Id) (az.Id p)then(En.cs p).getD c .j else(En.cs (l.getD (k-1) En.ab)).getD c .j:=by
  show T.s 5 (bL az.Id l p).length (λk c=>(En.cs ((bL az.Id l p).getD k En.ab)).getD c .j)=_;rw[eM];congr 1;funext k c;rw[fG];split
  ·rfl
  ·split<;>rfl
 rw[eT];refine mx (gT:=λc=>(En.cs p).getD c .j) (fT:=λk c=>(En.cs (l.getD k En.ab)).getD c .j) Az [] _ (eO (l.map az.Id) (az.Id p)) hle vn (λid m t h=>?_) (λid h=>?_) (λc id hc h=>?_) (λc c' id hc hc' h h'=>?_) (λR H w vp h=>?_) λV U h1 h2 h3 h4=>?_
 ·simp[aW]at h
 ·simp at h
 ·cases h
 ·cases h
 ·obtain⟨vs,e,h⟩:=h
  match vs,h with
  | [u0,u1,u2,u3,u4],⟨e0,e1,e2,e3,e4,_⟩=>
  obtain rfl:u0=_:=e0;obtain rfl:u1=_:=e1;obtain rfl:u2=_:=e2;obtain rfl:u3=_:=e3;obtain rfl:u4=_:=e4;refine⟨λc=>[iv p.Id,iv p.Kind,iv p.Target,iv p.j3,iv p.fc].getD c undef,λR' H' w'=>⟨_,e,rfl,rfl,rfl,rfl,rfl,trivial⟩,λc hc=>?_⟩
  match c,hc with
  | 0,_=>exact⟨λ_=>⟨rfl,rfl⟩,λid h=>by cases h⟩
  | 1,_=>exact⟨λ_=>⟨rfl,rfl⟩,λid h=>by cases h⟩
  | 2,_=>exact⟨λ_=>⟨rfl,rfl⟩,λid h=>by cases h⟩
  | 3,_=>exact⟨λ_=>⟨rfl,rfl⟩,λid h=>by cases h⟩
  | 4,_=>exact⟨λ_=>⟨rfl,rfl⟩,λid h=>by cases h⟩
  | c+5,hc=>exact absurd (show c+5<5 from hc) (by omega)
 ·let lp:=(range l.length).map λk=>sd (l.getD k En.ab) ;let pp:=sd p ;have hl:lp.length=l.length:=by simp[lp]
  have hg:∀k,k<l.length→lp.getD k En.ab=sd (l.getD k En.ab):=λk hk=>by
   rw[getD_eq_getElem?_getD,getElem?_map,getElem?_range hk];rfl
  have hcs:∀k c,k<l.length→c<5→(En.cs (lp.getD k En.ab)).getD c .j= .v (V k c):=λk c hk hc=>by
   rw[hg k hk];exact qK _ (V k) (λc x hc=>h1 k c x hk hc) (λc n0 l g hc=>h2 k c n0 l g hk hc) c hc
  have hps:∀c,c<5→(En.cs pp).getD c .j= .v (U c):=qK p U h3 h4;have hkey:lp.map az.Id=l.map az.Id:=by
   conv=>rhs;rw[←ga l En.ab]
   rw[map_map,map_map];rfl
  have hc:=rj lp pp (by omega);have hX:vn U= .g [.v (iv pp.Id),.v (iv pp.Kind),.v (iv pp.Target),.v (iv pp.j3),.v (iv pp.fc)]:=by
   unfold vn;rw[←T.v.inj (hps 0 (by omega)),←T.v.inj (hps 1 (by omega)),←T.v.inj (hps 2 (by omega)),←T.v.inj (hps 3 (by omega)),←T.v.inj (hps 4 (by omega))]
  rw[←hX,show tr lp= .s 5 l.length (λk c=>(En.cs (lp.getD k En.ab)).getD c .j)from congrArg (λm=>T.s 5 m λk c=>(En.cs (lp.getD k En.ab)).getD c .j) hl,show tr (bL az.Id lp pp)= .s 5 (l.length+1) (λk c=>(En.cs ((bL az.Id lp pp).getD k En.ab)).getD c .j)from congrArg (λm=>T.s 5 m λk c=>(En.cs ((bL az.Id lp pp).getD k En.ab)).getD c .j) (by rw[eM,hl])]at hc;refine⟨_,_,hcs,λk c hk hc=>?_,hc⟩;rw[fG,hkey,show az.Id pp=az.Id p from rfl];split
  ·exact hcs k c (by omega) hc
  ·split
   ·exact hps c hc
   ·exact hcs (k-1) c (by omega) hc
open Go Go.RowKit Go.Proofs Go.Proofs.Tryz
structure aJ where
 f0:Int
 y7:Option Addr
 zf:Nat
 zp:Nat
instance:En aJ:=⟨2,by omega,λa=>[.v (iv a.f0),.v (.slice a.y7 a.zf a.zp)],λ_=>rfl,λ_=>True,⟨0,none,0,0⟩⟩
@[go_sem] theorem Dk(a:aJ):En.cs a=[.v (iv a.f0),.v (.slice a.y7 a.zf a.zp)]:=rfl
theorem jb(a b:aJ):a_ prog 50 [.g [.v (iv a.f0),.c],.g [.v (iv b.f0),.c]] [] (λy _=>y= .v (iv (mH (aJ.f0 a) (aJ.f0 b)))):=by
 refine ob func50 ntmps50 ?_;refine go [.R,.B,.N,.B,.N,.a,.Z,.R,.f,.l,.N,.f,.l] ?_;refine cv call48 rfl rfl (km _ _) ?_;refine go [.N,.a,.Z] ?_;refine aQ 4 ?_;rfl
open Go Go.RowKit Go.Proofs Go.Proofs.Tryz
theorem rH(l:List aJ)(p:aJ)(hs:l.length≤2000000):a_ prog 99 [.h aa [],.g [.v (iv p.f0),.v (.slice p.y7 p.zf p.zp)]] [.rt aa .ro (tr l)] (j6 (.h 0 []) [(0,.row,tr (bL aJ.f0 l p))]):=by
 refine ob func99 ntmps99 ?_;refine go [.R] ?_;refine sp (aE.Ax (replicate 2 .j) rfl (by decide) (by decide) rfl rfl (by rfl) rfl rfl) ?_;refine go [.N,.a,.Z,.R,.S,.N,.a,.Z,.R,.a,.Z,.R2,.a,.Z] ?_;refine AW.block ?_;refine AW.ke 8 37 rfl (by decide) (by decide) ?_;refine AW.aL (λi:cV l.length=>[.sl 7 (.v (iv i.k)),.sl 6 (.v (.bool (dp aJ.f0 l p i.k))),.sl 5 (.h 37 []),.sl 3 (.p 3 [] 2 0 0),.sl 0 (.h aa []),.rt 3 .box (T.s 2 1 λk c=>([(T.v (iv p.f0),none),(T.v (.slice p.y7 p.zf p.zp),none)].getD (k*2+c) (T.j,none)).fst),.rt aa .ro (tr l),.rt 37 .row (tr (cB aJ.f0 l p i.k))]) (λi=>l.length-i.k) ⟨0,zero_le _⟩ (ar.bb ⟨rfl,rfl,rfl,rfl,rfl,Rf rfl,Rf rfl,⟨_,rfl,bK⟩,trivial⟩ rfl rfl) ?_;intro i;have hle:=i.le;have hil:=lY (key:=aJ.f0) (l:=l) (p:=p) (k:=i.k);refine go [.R2,.m,.N,.m,.h,.b,.Z] ?_;refine cd (λc1=>?_) λc1=>?_
 ·try simp only[ah]at c1
  refine jd (AW.seq (AW.block (AW.seq (AW.seq ?_))));refine go [.D [0,1,2,3,4,5,6,7,8,9,10,11],.t 0,.m,.N,.t 1,.n,.t 2,.m] ?_;refine aO.split 17 rfl (λg2=>?_) (λg2=>?_)
  ·refine go [.t 3,.m,.N,.t 4,.m,.t 5,.i,.t 6,.f,.N,.t 7,.l,.t 8,.f,.t 9,.l,.N,.t 10,.b] ?_;refine tk 11 rfl (Qt.bj rfl g2) ?_;refine go [.Z] ?_;refine cd (λc3=>?_) λc3=>?_
   ·try simp only[ah]at c3
    have hq:dp aJ.f0 l p i.k=false:=by simpa using ‹(!dp aJ.f0 l p i.k)=true›
    have hc:aJ.f0 p<aJ.f0 (l.getD i.k En.ab):=by have hk:=c3;omega
    refine go [.R,.m,.N,.G] ?_;refine sp (aE.bO (replicate 2 .j) rfl (by decide) (by decide) rfl (by decide) rfl (by rfl) rfl rfl (aj rfl)) ?_;refine go [.N] ?_;refine aB.bB 29 (tr [p]) rfl (cb (α:=aJ) (λc hc=>match c,hc with|0,_=>aw|1,_=>aw|c+2,hc=>absurd hc (by simp only[En.n];omega))) ?_;refine go [.N] ?_;refine sp (aE.bc rfl (by decide) (by decide) rfl rfl rfl (by simp only[length_cons,length_nil,length_append];omega)) ?_;refine go [.N] ?_;refine aB.bB 30 (tr (cB aJ.f0 l p i.k++[p])) rfl (cj (l:=cB aJ.f0 l p i.k) (l':=[p]) rfl (λ_ _ _ _=>rfl) (λ_ _ _ _=>rfl)) ?_;refine go [.N,.a,.Z,.R1,.a] ?_;refine aB.bS (ar.slot (d:=6) (v':= .bool (dp aJ.f0 l p (i.k+1))) rfl (congrArg Value.bool (by rw[da (by omega),hq,decide_eq_true hc];rfl))) ?_;refine go [.Z,.R1,.m,.N,.m,.m,.i,.N,.G] ?_;refine sp (aE.bO (replicate 2 .j) rfl (by decide) (by decide) rfl (by decide) rfl (by rfl) rfl rfl (aj rfl)) ?_;refine go [.N] ?_;refine aB.bB 36 (tr [(l.getD i.k En.ab)]) rfl (cb (α:=aJ) (λc hc=>match c,hc with|0,_=>aw|1,_=>aw|c+2,hc=>absurd hc (by simp only[En.n];omega))) ?_;refine go [.N] ?_;refine sp (aE.bc rfl (by decide) (by decide) rfl rfl rfl (by simp only[length_cons,length_nil,length_append];omega)) ?_;refine go [.N] ?_;refine aB.bB 37 (tr (cB aJ.f0 l p (i.k+1))) rfl (by rw[l4 (by omega) hq hc];exact cj (l:=cB aJ.f0 l p i.k++[p]) (l':=[(l.getD i.k En.ab)]) rfl (λ_ _ _ _=>rfl) (λ_ _ _ _=>rfl)) ?_;refine go [.N,.a,.Z,.R1,.m,.b,.N,.a,.Z] ?_;refine⟨⟨i.k+1,by omega⟩,ws,?_⟩;show l.length-(i.k+1)<l.length-i.k;omega
   try simp only[ah]at c3
   have hq:dp aJ.f0 l p i.k=false:=by simpa using ‹(!dp aJ.f0 l p i.k)=true›
   have hc:¬aJ.f0 p<aJ.f0 (l.getD i.k En.ab):=by have hk:=c3;omega
   refine go [.J,.R1,.m,.m,.N,.m,.i,.G,.N] ?_;refine sp (aE.bO (replicate 2 .j) rfl (by decide) (by decide) rfl (by decide) rfl (by rfl) rfl rfl (aj rfl)) ?_;refine go [.N] ?_;refine aB.bB 36 (tr [(l.getD i.k En.ab)]) rfl (cb (α:=aJ) (λc hc=>match c,hc with|0,_=>aw|1,_=>aw|c+2,hc=>absurd hc (by simp only[En.n];omega))) ?_;refine go [.N] ?_;refine sp (aE.bc rfl (by decide) (by decide) rfl rfl rfl (by simp only[length_cons,length_nil,length_append];omega)) ?_;refine go [.N] ?_;refine aB.bB 37 (tr (cB aJ.f0 l p (i.k+1))) rfl (by rw[ma (by omega) hq hc];exact cj (l:=cB aJ.f0 l p i.k) (l':=[(l.getD i.k En.ab)]) rfl (λ_ _ _ _=>rfl) (λ_ _ _ _=>rfl)) ?_;refine go [.N,.a] ?_;refine aB.bS (ar.slot (d:=6) (v':= .bool (dp aJ.f0 l p (i.k+1))) rfl (congrArg Value.bool (by rw[da (by omega),hq,decide_eq_false hc];rfl))) ?_;refine go [.Z,.R1,.m,.N,.b,.a,.Z] ?_;refine⟨⟨i.k+1,by omega⟩,ws,?_⟩;show l.length-(i.k+1)<l.length-i.k;omega
  refine go [.t 3,.x,.N,.t 4,.x,.t 5,.x,.t 6,.x,.N,.t 7,.x,.t 8,.x,.t 9,.x,.N,.t 10,.x] ?_;refine tk 11 rfl (Qt.bd rfl g2) ?_;refine go [.Z] ?_;refine AW.cond rfl (λc4=>(by cases c4)) (λc4=>?_)
  try simp only[ah]at c4
  have hq:dp aJ.f0 l p i.k=true:=by simpa using ‹(!dp aJ.f0 l p i.k)=false›
  refine go [.J,.R1,.m,.N,.m,.m,.i,.N,.G] ?_;refine sp (aE.bO (replicate 2 .j) rfl (by decide) (by decide) rfl (by decide) rfl (by rfl) rfl rfl (aj rfl)) ?_;refine go [.N] ?_;refine aB.bB 36 (tr [(l.getD i.k En.ab)]) rfl (cb (α:=aJ) (λc hc=>match c,hc with|0,_=>aw|1,_=>aw|c+2,hc=>absurd hc (by simp only[En.n];omega))) ?_;refine go [.N] ?_;refine sp (aE.bc rfl (by decide) (by decide) rfl rfl rfl (by simp only[length_cons,length_nil,length_append];omega)) ?_;refine go [.N] ?_;refine aB.bB 37 (tr (cB aJ.f0 l p (i.k+1))) rfl (by rw[mh (by omega) hq];exact cj (l:=cB aJ.f0 l p i.k) (l':=[(l.getD i.k En.ab)]) rfl (λ_ _ _ _=>rfl) (λ_ _ _ _=>rfl)) ?_;refine go [.N,.a] ?_;refine aB.bS (ar.slot (d:=6) (v':= .bool (dp aJ.f0 l p (i.k+1))) rfl (congrArg Value.bool (by rw[da (by omega),hq];rfl))) ?_;refine go [.Z,.R1,.m,.N,.b,.a,.Z] ?_;refine⟨⟨i.k+1,by omega⟩,ws,?_⟩;show l.length-(i.k+1)<l.length-i.k;omega
 try simp only[ah]at c1
 refine AW.exit ?_;dsimp only[aD,au,reduceIte];refine go [.R2,.m,.N,.n,.Z] ?_;refine cd (λc5=>?_) λc5=>?_
 ·try simp only[ah]at c5
  refine go [.R1,.m,.G,.N] ?_;refine sp (aE.bO (replicate 2 .j) rfl (by decide) (by decide) rfl (by decide) rfl (by rfl) rfl rfl (aj rfl)) ?_;refine go [.N] ?_;refine aB.bB 42 (tr [p]) rfl (cb (α:=aJ) (λc hc=>match c,hc with|0,_=>aw|1,_=>aw|c+2,hc=>absurd hc (by simp only[En.n];omega))) ?_;refine go [.N] ?_;refine sp (aE.bc rfl (by decide) (by decide) rfl rfl rfl (by simp only[length_cons,length_nil,length_append];omega)) ?_;refine go [.N] ?_;refine aB.bB 43 (tr (cB aJ.f0 l p i.k++[p])) rfl (cj (l:=cB aJ.f0 l p i.k) (l':=[p]) rfl (λ_ _ _ _=>rfl) (λ_ _ _ _=>rfl)) ?_;refine go [.N,.a,.Z,.R,.m,.a,.Z] ?_;refine aQ 4 ?_;rw[show bL aJ.f0 l p=cB aJ.f0 l p i.k++[p]from by rw[gq (k:=i.k) (by omega) (by omega),if_neg (by simpa using c5)]];refine⟨λ_=>43,rfl,aj rfl,?_⟩;intro r hr;cases List.mem_singleton.1 hr;exact⟨by simp,aq rfl⟩
 try simp only[ah]at c5
 refine go [.J,.R,.m,.N,.a,.Z] ?_;refine aQ 4 ?_;rw[show bL aJ.f0 l p=cB aJ.f0 l p i.k from by rw[gq (k:=i.k) (by omega) (by omega),if_pos (by simpa using c5)]];refine⟨λ_=>37,rfl,aj rfl,?_⟩;intro r hr;cases List.mem_singleton.1 hr;exact⟨by simp,aq rfl⟩
end Go.Proofs.YtekcnnngjoonbaaGreat.VM

