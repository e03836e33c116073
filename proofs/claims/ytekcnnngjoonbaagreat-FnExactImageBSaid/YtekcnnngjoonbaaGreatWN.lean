/- Contracts. No conditions. -/
import Derived.Test.YtekcnnngjoonbaaGreatWM
set_option linter.all false
set_option maxHeartbeats 8000000
set_option maxRecDepth 10000
namespace Go.Proofs.YtekcnnngjoonbaaGreat.VM
open List Nat
open Go Go.RowKit Go.Proofs Go.Proofs.Tryz
def qL(n:Nat):Prop:=∀(P X Y S:List aK) (xa xm xb:Int),xa=(P.length:Nat)→xm=(P.length+X.length:Nat)→xb=(P.length+X.length+Y.length:Nat)→X.length+Y.length≤n→0<X.length→0<Y.length→fS aK.f0 X→fS aK.f0 Y→P.length+X.length+Y.length+S.length≤2305843009213693952→a_ prog 177 [.h aa [],.v (iv xa),.v (iv xm),.v (iv xb),.f 52 []] [.rt aa .row (tr (aV P X Y S))] (ch (.t []) [] [(aa,tr (P++(ap aK.f0 (X++Y)++S)))])
theorem pV(n:Nat)(IH:qL n)(P X Y S:List aK)(a m b:Nat)(ha:a=P.length)(hm:m=a+X.length)(hb:b=m+Y.length)(hn:X.length+Y.length≤n+1)(hx:0<X.length)(hy:0<Y.length)(hX:fS aK.f0 X)(hY:fS aK.f0 Y)(hl:P.length+X.length+Y.length+S.length≤2305843009213693952):a_ prog 177 [.h aa [],.v (iv (a:Nat)),.v (iv (m:Nat)),.v (iv (b:Nat)),.f 52 []] [.rt aa .row (tr (aV P X Y S))] (ch (.t []) [] [(aa,tr (P++(ap aK.f0 (X++Y)++S)))]):=by
 refine ob func177 ntmps177 ?_;refine go [.R2,.m,.m] ?_;refine qq (Qt.binOp rfl rfl (by first|exact ck (by omega)|rfl)) ?_;refine go [.N,.b,.Z] ?_;refine cd (λc1=>?_) λc1=>?_
 ·try simp only[ah]at c1
  obtain⟨x,rfl⟩:∃x,X=[x]:=List.length_eq_one_iff.1 (by omega);simp only[length_singleton]at hm hn hl;have hLa:(aV P [x] Y S).getD a En.ab=x:=by rw[iL (by omega) (by simp only[length_singleton];omega),show a-P.length=0 by omega];rfl
  have hLl:(aV P [x] Y S).length=P.length+1+Y.length+S.length:=eB;have hmono:=jR (P:=P) (X:=[x]) (S:=S) ha hm hb hY x;refine go [.R,.m,.a,.Z,.R,.m,.N,.a,.Z] ?_;refine AW.seq (AW.block ?_);refine AW.aL (λs:BS (λt=>aK.f0 ((aV P [x] Y S).getD t En.ab)<aK.f0 x) m b=>[.sl 10 (.v (iv (s.i:Nat))),.sl 11 (.v (iv (s.j:Nat))),.sl 0 (.h aa []),.sl 1 (.v (iv (a:Nat))),.sl 4 (.f 52 []),.rt aa .row (tr (aV P [x] Y S))]) (λs=>s.j-s.i) ⟨m,b,Nat.le_refl _,by omega,Nat.le_refl _,λt h1 h2=>absurd h2 (by omega),λt h1 h2=>absurd h2 (by omega)⟩ (ws) ?_;intro s;have hs1:=s.h1;have hs2:=s.h2;have hs3:=s.h3;refine go [.R2,.m,.m,.N,.b,.Z] ?_;refine cd (λc2=>?_) λc2=>?_
  ·try simp only[ah]at c2
   refine jd (AW.block (sr ?_));refine go [.m,.m,.N,.b] ?_;refine qq (Qt.cO rfl rfl underlying205) ?_;refine qq (Qt.binOp rfl rfl (eb _ _ (by omega))) ?_;refine go [.N] ?_;refine qq (Qt.cO rfl rfl underlying3) ?_;refine go [.N] ?_;refine aB.bS (ar.slot (d:=39) (v':=iv ((((s.i+s.j) / 2):Nat):Int)) rfl (dZ _ (by omega))) ?_;refine go [.N,.a,.Z] ?_;refine AW.seq ?_;refine go [.D [0,1,2,3,4,5,6,7,8,10],.t 0,.m,.t 1,.m,.N,.t 2,.m] ?_;refine tk 3 rfl (Qt.indexAddr rfl rfl rfl rfl gE gh (by decide) (by first|omega|(rw[aT];omega))) ?_;refine go [.t 4,.G,.N,.t 5,.m,.t 6,.m] ?_;refine tk 7 rfl (Qt.indexAddr rfl rfl rfl rfl gE gh (by decide) (by first|omega|(rw[aT];omega))) ?_;refine go [.N,.t 8,.G,.N] ?_;refine aO.bS (ar.lA 44 [.v (iv ((aV P [x] Y S).getD ((s.i+s.j) / 2) En.ab).f0),.c] rfl ⟨.inl rfl,.inr ⟨rfl,_,rfl,rfl⟩,trivial⟩) ?_;refine aO.bS (ar.lA 48 [.v (iv ((aV P [x] Y S).getD a En.ab).f0),.c] rfl ⟨.inl rfl,.inr ⟨rfl,_,rfl,rfl⟩,trivial⟩) ?_;refine go [.N] ?_;refine a1 9 [] [8,4,0,7,3,6,5,2,1] rfl rfl (aE.aC rfl (by decide) call52 rfl rfl (iW _ _)) ?_;refine go [.N,.t 10,.b,.Z] ?_;refine cd (λc3=>?_) λc3=>?_
   ·try simp only[ah]at c3
    have hq:aK.f0 ((aV P [x] Y S).getD ((s.i+s.j) / 2) En.ab)<aK.f0 x:=by have:=bI.1 c3;rwa [hLa]at this
    refine go [.R1,.m,.b,.N,.a,.Z] ?_;refine⟨⟨((s.i+s.j) / 2)+1,s.j,by omega,by omega,by omega,s.up hmono (by omega) hq,s.no⟩,ar.bb ⟨cT (by show _=((((s.i+s.j) / 2)+1:Nat):Int);omega),rfl,rfl,rfl,rfl,Rf rfl,trivial⟩ rfl rfl,?_⟩;dsimp only;omega
   try simp only[ah]at c3
   have hq:¬aK.f0 ((aV P [x] Y S).getD ((s.i+s.j) / 2) En.ab)<aK.f0 x:=by intro hc;have h2:=c3;rw[hLa]at h2;have:=bI.2 hc;omega
   refine go [.R1,.m,.a,.Z] ?_;refine⟨⟨s.i,((s.i+s.j) / 2),by omega,by omega,by omega,s.yes,s.down hmono (by omega) hq⟩,ws,?_⟩;dsimp only;omega
  try simp only[ah]at c2
  refine AW.exit ?_;dsimp only[aD,au,reduceIte];refine go [.R2,.m,.N,.a,.Z] ?_;refine AW.block ?_;refine AW.aL (λw:cV (s.i-m)=>[.sl 13 (.v (iv (a+w.k:Nat))),.sl 10 (.v (iv (s.i:Nat))),.sl 0 (.h aa []),.sl 1 (.v (iv (a:Nat))),.rt aa .row (tr (cw P x Y S w.k))]) (λw=>s.i-m-w.k) ⟨0,zero_le _⟩ (ar.bb ⟨cT (by(try dsimp only);omega),rfl,rfl,rfl,⟨_,rfl,(by exact aw)⟩,trivial⟩ rfl rfl) ?_;intro w;have hlew:=w.le;have hqt:(((a+w.k:Nat):Int)+1).toNat=a+w.k+1:=by omega
  refine go [.R2,.m,.m,.N] ?_;refine qq (Qt.binOp rfl rfl (by first|exact ck (by omega)|rfl)) ?_;refine go [.b,.Z] ?_;refine cd (λc4=>?_) λc4=>?_
  ·try simp only[ah]at c4
   refine jd (AW.seq (AW.block ?_));refine go [.D [0,1,2,3,4,5,6,7,8,9,10,11,12,13,14,16],.t 0,.m,.N,.t 1,.m,.t 2,.m,.t 3,.m,.N,.t 4,.b,.t 5,.m,.t 6,.m,.N,.t 7,.b] ?_;refine tk 8 rfl (Qt.indexAddr rfl rfl rfl rfl gE gh (by decide) (by first|omega|(rw[aT];omega))) ?_;refine go [.t 9,.G,.N,.t 10,.m,.t 11,.m] ?_;refine tk 12 rfl (Qt.indexAddr rfl rfl rfl rfl gE gh (by decide) (by first|omega|(rw[aT];omega))) ?_;refine go [.N,.t 13,.G] ?_;refine tk 14 rfl (Qt.indexAddr rfl rfl rfl rfl gE gh (by decide) (by first|omega|(rw[aT];omega))) ?_;refine a1 15 [2,3,4] [14,13,9,8,7,6,5,1,0,12,11,10] rfl rfl (aE.cG [.v (.bool false),.v (.bool false)] rfl rfl (by simp) rfl (by rfl) rfl rfl (by decide) rfl) ?_;refine go [.N,.g,.m,.g,.m,.g,.b,.N] ?_;refine aO.bB aa (tr ((cw P x Y S w.k).set (a+w.k) ((cw P x Y S w.k).getD (((a+w.k:Nat):Int)+1).toNat En.ab))) rfl (bG (λk c hk=>by simp only[ai,hk,false_and,if_false];try rfl) (λc hc=>match c,hc with|0,_=>(by simp only[ai,eq_self,and_self,and_true,and_false,if_true,if_false,Nat.reduceEqDiff];exact aw)|1,_=>(by simp only[ai,eq_self,and_self,and_true,and_false,if_true,if_false,Nat.reduceEqDiff];exact aw)|c+2,hc=>absurd hc (by simp only[En.n];omega))) ?_;refine go [.N] ?_;refine tk 16 rfl (Qt.indexAddr rfl rfl rfl rfl gE gh (by decide) (by rw[length_set,aT];omega)) ?_;refine a1 17 [] [16,15,14,13,12,11,10,9,8,7,6,5,4,3,2,1,0] rfl rfl (aE.cG [.v (.bool false),.v (.bool false)] rfl rfl (by simp) rfl (by rfl) rfl rfl (by decide) rfl) ?_;refine go [.N] ?_;refine aO.bB aa (tr (((cw P x Y S w.k).set (a+w.k) ((cw P x Y S w.k).getD (((a+w.k:Nat):Int)+1).toNat En.ab)).set (((a+w.k:Nat):Int)+1).toNat ((cw P x Y S w.k).getD (a+w.k) En.ab))) rfl (bG (λk c hk=>by simp only[ai,hk,false_and,if_false];try rfl) (λc hc=>match c,hc with|0,_=>(by simp only[ai,eq_self,and_self,and_true,and_false,if_true,if_false,Nat.reduceEqDiff];exact aw)|1,_=>(by simp only[ai,eq_self,and_self,and_true,and_false,if_true,if_false,Nat.reduceEqDiff];exact aw)|c+2,hc=>absurd hc (by simp only[En.n];omega))) ?_;refine go [.N,.Z,.R1,.m,.b,.a,.Z] ?_;refine⟨⟨w.k+1,by omega⟩,ar.bb ⟨cT (by show _=((a+(w.k+1):Nat):Int);omega),rfl,rfl,rfl,⟨_,rfl,(by rw[←sq (d:=En.ab) (p:=(a+w.k)) (q:=(((a+w.k:Nat):Int)+1).toNat) (by omega) (by omega) (by omega)];exact aw)⟩,trivial⟩ rfl rfl,?_⟩;dsimp only;omega
  try simp only[ah]at c4
  refine AW.exit ?_;dsimp only[aD,au,reduceIte];refine AW.ret (ct (.nil) ?_);have hf:cw P x Y S w.k=P++(ap aK.f0 ([x]++Y)++S):=by rw[show w.k=s.i-m by omega];exact jN ha hm hb hY s (by omega)
  rw[←hf];refine⟨λn=>n,rfl,λ_ _=>rfl,nodup_nil,(by simp),?_⟩;intro p hp;cases List.mem_singleton.1 hp;exact aq rfl
 try simp only[ah]at c1
 refine jd (dq ?_);refine go [.m,.N,.m] ?_;refine qq (Qt.binOp rfl rfl (by first|exact ck (by omega)|rfl)) ?_;refine go [.b,.Z] ?_;refine cd (λc5=>?_) λc5=>?_
 ·try simp only[ah]at c5
  obtain⟨y,rfl⟩:∃y,Y=[y]:=List.length_eq_one_iff.1 (by omega);simp only[length_singleton]at hb hn hl;have hLa:(aV P X [y] S).getD m En.ab=y:=by rw[iq (by omega) (by simp only[length_singleton];omega),show m-P.length-X.length=0 by omega];rfl
  have hLl:(aV P X [y] S).length=P.length+X.length+1+S.length:=eB;have hmono:=kI (P:=P) (Y:=[y]) (S:=S) ha hm hX y;refine go [.R,.m,.N,.a,.Z,.R,.m,.a,.Z] ?_;refine AW.seq (AW.block ?_);refine AW.aL (λs:BS (λt=>¬aK.f0 y<aK.f0 ((aV P X [y] S).getD t En.ab)) a m=>[.sl 14 (.v (iv (s.i:Nat))),.sl 15 (.v (iv (s.j:Nat))),.sl 0 (.h aa []),.sl 1 (.v (iv (a:Nat))),.sl 2 (.v (iv (m:Nat))),.sl 4 (.f 52 []),.rt aa .row (tr (aV P X [y] S))]) (λs=>s.j-s.i) ⟨a,m,Nat.le_refl _,by omega,Nat.le_refl _,λt h1 h2=>absurd h2 (by omega),λt h1 h2=>absurd h2 (by omega)⟩ (ws) ?_;intro s;have hs1:=s.h1;have hs2:=s.h2;have hs3:=s.h3;refine go [.R2,.m,.N,.m,.b,.Z] ?_;refine cd (λc6=>?_) λc6=>?_
  ·try simp only[ah]at c6
   refine jd (AW.block (sr ?_));refine go [.m,.N,.m,.b] ?_;refine qq (Qt.cO rfl rfl underlying205) ?_;refine go [.N] ?_;refine qq (Qt.binOp rfl rfl (eb _ _ (by omega))) ?_;refine qq (Qt.cO rfl rfl underlying3) ?_;refine go [.N] ?_;refine aB.bS (ar.slot (d:=91) (v':=iv ((((s.i+s.j) / 2):Nat):Int)) rfl (dZ _ (by omega))) ?_;refine go [.N,.a,.Z] ?_;refine AW.seq ?_;refine go [.D [0,1,2,3,4,5,6,7,8,10,11],.t 0,.m,.t 1,.m,.N,.t 2,.m] ?_;refine tk 3 rfl (Qt.indexAddr rfl rfl rfl rfl gE gh (by decide) (by first|omega|(rw[aT];omega))) ?_;refine go [.t 4,.G,.N,.t 5,.m,.t 6,.m] ?_;refine tk 7 rfl (Qt.indexAddr rfl rfl rfl rfl gE gh (by decide) (by first|omega|(rw[aT];omega))) ?_;refine go [.N,.t 8,.G,.N] ?_;refine aO.bS (ar.lA 96 [.v (iv ((aV P X [y] S).getD m En.ab).f0),.c] rfl ⟨.inl rfl,.inr ⟨rfl,_,rfl,rfl⟩,trivial⟩) ?_;refine aO.bS (ar.lA 100 [.v (iv ((aV P X [y] S).getD ((s.i+s.j) / 2) En.ab).f0),.c] rfl ⟨.inl rfl,.inr ⟨rfl,_,rfl,rfl⟩,trivial⟩) ?_;refine go [.N] ?_;refine a1 9 [] [8,4,0,7,3,6,5,2,1] rfl rfl (aE.aC rfl (by decide) call52 rfl rfl (iW _ _)) ?_;refine go [.N,.t 10,.b,.t 11,.n,.Z] ?_;refine cd (λc7=>?_) λc7=>?_
   ·try simp only[ah]at c7
    have hq:¬aK.f0 y<aK.f0 ((aV P X [y] S).getD ((s.i+s.j) / 2) En.ab):=by intro hc;have h2:=c7;rw[hLa]at h2;have:=bI.2 hc;omega
    refine go [.R1,.m,.N,.b,.a,.Z] ?_;refine⟨⟨((s.i+s.j) / 2)+1,s.j,by omega,by omega,by omega,s.up hmono (by omega) hq,s.no⟩,ar.bb ⟨cT (by show _=((((s.i+s.j) / 2)+1:Nat):Int);omega),rfl,rfl,rfl,rfl,rfl,Rf rfl,trivial⟩ rfl rfl,?_⟩;dsimp only;omega
   try simp only[ah]at c7
   have hq:¬ ¬aK.f0 y<aK.f0 ((aV P X [y] S).getD ((s.i+s.j) / 2) En.ab):=by have h2:=c7;rw[hLa]at h2;have:=bI.1 h2;omega
   refine go [.R1,.m,.N,.a,.Z] ?_;refine⟨⟨s.i,((s.i+s.j) / 2),by omega,by omega,by omega,s.yes,s.down hmono (by omega) hq⟩,ws,?_⟩;dsimp only;omega
  try simp only[ah]at c6
  refine AW.exit ?_;dsimp only[aD,au,reduceIte];refine go [.R2,.m,.a,.Z] ?_;refine AW.block ?_;refine AW.bS (L':=[.sl 17 (.v (iv (a+X.length:Nat))),.sl 14 (.v (iv (s.i:Nat))),.sl 0 (.h aa []),.sl 1 (.v (iv (a:Nat))),.rt aa .row (tr (cw P y X S X.length))]) (ar.bb ⟨cT (by omega),rfl,rfl,rfl,⟨_,rfl,(by rw[show aV P X [y] S=cw P y X S X.length from by rw[cw,take_length,drop_length];rfl];exact aw)⟩,trivial⟩ rfl rfl) ?_;refine AW.loop (λw:DI (s.i-a) X.length=>[.sl 17 (.v (iv (a+w.k:Nat))),.sl 14 (.v (iv (s.i:Nat))),.sl 0 (.h aa []),.sl 1 (.v (iv (a:Nat))),.rt aa .row (tr (cw P y X S w.k))]) (λw=>w.k) ⟨X.length,by omega,Nat.le_refl _⟩ ?_;intro w;have hlew:=w.le;have hwl:=w.h1;have hqt:a+w.k>s.i→(((a+w.k:Nat):Int)-1).toNat=a+w.k-1:=λ_=>by omega
  refine go [.R2,.m,.N,.m,.b,.Z] ?_;refine cd (λc8=>?_) λc8=>?_
  ·try simp only[ah]at c8
   refine jd (AW.seq (AW.block ?_));refine go [.D [0,1,2,3,4,5,6,7,8,9,10,11,12,13,14,16],.t 0,.m,.N,.t 1,.m,.t 2,.m,.t 3,.m,.N] ?_;refine tk 4 rfl (Qt.binOp rfl rfl (by first|exact ck (by omega)|rfl)) ?_;refine go [.t 5,.m,.t 6,.m,.N] ?_;refine tk 7 rfl (Qt.binOp rfl rfl (by first|exact ck (by omega)|rfl)) ?_;refine tk 8 rfl (Qt.indexAddr rfl rfl rfl rfl gE gh (by decide) (by first|omega|(rw[aT];omega))) ?_;refine go [.t 9,.G,.N,.t 10,.m,.t 11,.m] ?_;refine tk 12 rfl (Qt.indexAddr rfl rfl rfl rfl gE gh (by decide) (by first|omega|(rw[aT];omega))) ?_;refine go [.N,.t 13,.G] ?_;refine tk 14 rfl (Qt.indexAddr rfl rfl rfl rfl gE gh (by decide) (by first|omega|(rw[aT];omega))) ?_;refine a1 15 [2,3,4] [14,13,9,8,7,6,5,1,0,12,11,10] rfl rfl (aE.cG [.v (.bool false),.v (.bool false)] rfl rfl (by simp) rfl (by rfl) rfl rfl (by decide) rfl) ?_;refine go [.N,.g,.m,.g,.m] ?_;refine ae rfl (Qt.binOp rfl rfl (by first|exact ck (by omega)|rfl)) ?_;refine go [.N] ?_;refine aO.bB aa (tr ((cw P y X S w.k).set (a+w.k) ((cw P y X S w.k).getD (((a+w.k:Nat):Int)-1).toNat En.ab))) rfl (bG (λk c hk=>by simp only[ai,hk,false_and,if_false];try rfl) (λc hc=>match c,hc with|0,_=>(by simp only[ai,eq_self,and_self,and_true,and_false,if_true,if_false,Nat.reduceEqDiff];exact aw)|1,_=>(by simp only[ai,eq_self,and_self,and_true,and_false,if_true,if_false,Nat.reduceEqDiff];exact aw)|c+2,hc=>absurd hc (by simp only[En.n];omega))) ?_;refine go [.N] ?_;refine tk 16 rfl (Qt.indexAddr rfl rfl rfl rfl gE gh (by decide) (by rw[length_set,aT];omega)) ?_;refine a1 17 [] [16,15,14,13,12,11,10,9,8,7,6,5,4,3,2,1,0] rfl rfl (aE.cG [.v (.bool false),.v (.bool false)] rfl rfl (by simp) rfl (by rfl) rfl rfl (by decide) rfl) ?_;refine go [.N] ?_;refine aO.bB aa (tr (((cw P y X S w.k).set (a+w.k) ((cw P y X S w.k).getD (((a+w.k:Nat):Int)-1).toNat En.ab)).set (((a+w.k:Nat):Int)-1).toNat ((cw P y X S w.k).getD (a+w.k) En.ab))) rfl (bG (λk c hk=>by simp only[ai,hk,false_and,if_false];try rfl) (λc hc=>match c,hc with|0,_=>(by simp only[ai,eq_self,and_self,and_true,and_false,if_true,if_false,Nat.reduceEqDiff];exact aw)|1,_=>(by simp only[ai,eq_self,and_self,and_true,and_false,if_true,if_false,Nat.reduceEqDiff];exact aw)|c+2,hc=>absurd hc (by simp only[En.n];omega))) ?_;refine go [.N,.Z,.R1,.m] ?_;refine qq (Qt.binOp rfl rfl (by first|exact ck (by omega)|rfl)) ?_;refine go [.a,.Z] ?_;have hsw:=gv (d:=En.ab) (P:=P) (Y:=X) (S:=S) (x:=y) (t:=w.k-1) (p:=(a+w.k)) (q:=(((a+w.k:Nat):Int)-1).toNat) (by omega) (by omega) (by omega);rw[show w.k-1+1=w.k by omega]at hsw;refine⟨⟨w.k-1,by omega,by omega⟩,ar.bb ⟨cT (by show _=((a+(w.k-1):Nat):Int);omega),rfl,rfl,rfl,⟨_,rfl,(by rw[←hsw];exact aw)⟩,trivial⟩ rfl rfl,?_⟩;dsimp only
   omega
  try simp only[ah]at c8
  refine AW.exit ?_;dsimp only[aD,au,reduceIte];refine AW.ret (ct (.nil) ?_);have hf:cw P y X S w.k=P++(ap aK.f0 (X++[y])++S):=by rw[show w.k=s.i-a by omega];exact kB ha hm hX s (by omega)
  rw[←hf];refine⟨λn=>n,rfl,λ_ _=>rfl,nodup_nil,(by simp),?_⟩;intro p hp;cases List.mem_singleton.1 hp;exact aq rfl
 try simp only[ah]at c5
 have hLl:(aV P X Y S).length=P.length+X.length+Y.length+S.length:=eB;have ham:a<m:=by omega
 have hmb:m<b:=by omega
 have hsb:=mU ham hmb;have hmono:=kO (key:=aK.f0) (P:=P) (S:=S) ha hm hb hX hY ham hmb;refine go [.J,.R,.m,.N,.m,.b] ?_;refine qq (Qt.cO rfl rfl underlying205) ?_;refine go [.N] ?_;refine qq (Qt.binOp rfl rfl (eb _ _ (by omega))) ?_;refine qq (Qt.cO rfl rfl underlying3) ?_;refine go [.N] ?_;refine aB.bS (ar.slot (d:=134) (v':=iv ((((a+b) / 2):Nat):Int)) rfl (dZ _ (by omega))) ?_;refine go [.N,.a,.Z,.R,.m,.m,.N,.b,.a,.Z,.R,.a,.N,.a,.Z] ?_;refine AW.seq ?_;refine AW.cut [.sl 20 (.v (iv (eK a m b:Nat))),.sl 21 (.v (iv (fQ a m b:Nat))),.sl 19 (.v (iv ((((a+b) / 2)+m:Nat):Int))),.sl 18 (.v (iv (((a+b) / 2):Nat))),.sl 0 (.h aa []),.sl 1 (.v (iv (a:Nat))),.sl 2 (.v (iv (m:Nat))),.sl 3 (.v (iv (b:Nat))),.sl 4 (.f 52 []),.rt aa .row (tr (aV P X Y S))] ?_ ?_
 ·refine go [.R,.m,.m,.N,.b,.Z] ?_;refine cd (λc9=>?_) λc9=>?_
  ·try simp only[ah]at c9
   refine go [.R,.m,.m,.N] ?_;refine qq (Qt.binOp rfl rfl (by first|exact ck (by omega)|rfl)) ?_;refine go [.a,.Z,.R1,.m,.N,.a,.Z] ?_;exact ar.bb ⟨cT (by first|(rw[show eK a m b=_ from if_pos (by omega)];omega)|rw[show eK a m b=_ from if_pos (by omega)]),cT (by rw[show fQ a m b=_ from if_pos (by omega)]),cT (by omega),rfl,rfl,rfl,rfl,rfl,rfl,Rf rfl,trivial⟩ rfl rfl
  try simp only[ah]at c9
  refine go [.R,.m,.a,.Z,.R1,.m,.N,.a,.Z] ?_;exact ar.bb ⟨cT (by first|(rw[show eK a m b=_ from if_neg (by omega)];omega)|rw[show eK a m b=_ from if_neg (by omega)]),cT (by rw[show fQ a m b=_ from if_neg (by omega)]),cT (by omega),rfl,rfl,rfl,rfl,rfl,rfl,Rf rfl,trivial⟩ rfl rfl
 ·refine go [.R,.m] ?_;refine qq (Qt.binOp rfl rfl (by first|exact ck (by omega)|rfl)) ?_;refine go [.N,.a,.Z] ?_;refine AW.seq (AW.block ?_);refine AW.aL (λs:BS (j4 aK.f0 (aV P X Y S) (((a+b) / 2)+m)) (eK a m b) (fQ a m b)=>[.sl 22 (.v (iv (((((a+b) / 2)+m:Nat):Int)-1))),.sl 20 (.v (iv (s.i:Nat))),.sl 21 (.v (iv (s.j:Nat))),.sl 19 (.v (iv ((((a+b) / 2)+m:Nat):Int))),.sl 18 (.v (iv (((a+b) / 2):Nat))),.sl 0 (.h aa []),.sl 1 (.v (iv (a:Nat))),.sl 2 (.v (iv (m:Nat))),.sl 3 (.v (iv (b:Nat))),.sl 4 (.f 52 []),.rt aa .row (tr (aV P X Y S))]) (λs=>s.j-s.i) ⟨eK a m b,fQ a m b,Nat.le_refl _,by omega,Nat.le_refl _,λt h1 h2=>absurd h2 (by omega),λt h1 h2=>absurd h2 (by omega)⟩ (ws) ?_;intro s;have hs1:=s.h1;have hs2:=s.h2;have hs3:=s.h3;refine go [.R2,.m,.m,.N,.b,.Z] ?_;refine cd (λc10=>?_) λc10=>?_
  ·try simp only[ah]at c10
   have hpc:((((((a+b) / 2)+m:Nat):Int)-1)-((((s.i+s.j) / 2):Nat):Int)).toNat=((a+b) / 2)+m-1-((s.i+s.j) / 2):=by omega
   refine jd (AW.block (sr ?_));refine go [.m,.m,.N,.b] ?_;refine qq (Qt.cO rfl rfl underlying205) ?_;refine qq (Qt.binOp rfl rfl (eb _ _ (by omega))) ?_;refine go [.N] ?_;refine qq (Qt.cO rfl rfl underlying3) ?_;refine go [.N] ?_;refine aB.bS (ar.slot (d:=157) (v':=iv ((((s.i+s.j) / 2):Nat):Int)) rfl (dZ _ (by omega))) ?_;refine go [.N,.a,.Z] ?_;refine AW.seq ?_;refine go [.D [0,1,2,3,4,5,6,7,8,9,10,12,13],.t 0,.m,.t 1,.m,.N,.t 2,.m,.t 3,.m] ?_;refine tk 4 rfl (Qt.binOp rfl rfl (by first|exact ck (by omega)|rfl)) ?_;refine go [.N] ?_;refine tk 5 rfl (Qt.indexAddr rfl rfl rfl rfl gE gh (by decide) (by first|omega|(rw[aT];omega))) ?_;refine go [.t 6,.G,.t 7,.m,.N,.t 8,.m] ?_;refine tk 9 rfl (Qt.indexAddr rfl rfl rfl rfl gE gh (by decide) (by first|omega|(rw[aT];omega))) ?_;refine go [.t 10,.G,.N] ?_;refine aO.bS (ar.lA 164 [.v (iv ((aV P X Y S).getD ((((((a+b) / 2)+m:Nat):Int)-1)-((((s.i+s.j) / 2):Nat):Int)).toNat En.ab).f0),.c] rfl ⟨.inl rfl,.inr ⟨rfl,_,rfl,rfl⟩,trivial⟩) ?_;refine aO.bS (ar.lA 168 [.v (iv ((aV P X Y S).getD ((s.i+s.j) / 2) En.ab).f0),.c] rfl ⟨.inl rfl,.inr ⟨rfl,_,rfl,rfl⟩,trivial⟩) ?_;refine go [.N] ?_;refine a1 11 [] [10,6,0,9,5,8,7,4,1,3,2] rfl rfl (aE.aC rfl (by decide) call52 rfl rfl (iW _ _)) ?_;refine go [.N,.t 12,.b,.t 13,.n,.Z] ?_;refine cd (λc11=>?_) λc11=>?_
   ·try simp only[ah]at c11
    have hq:j4 aK.f0 (aV P X Y S) (((a+b) / 2)+m) ((s.i+s.j) / 2):=by intro hc;have h2:=c11;rw[hpc]at h2;have:=bI.2 hc;omega
    refine go [.R1,.m,.N,.b,.a,.Z] ?_;refine⟨⟨((s.i+s.j) / 2)+1,s.j,by omega,by omega,by omega,s.up hmono (by omega) hq,s.no⟩,ar.bb ⟨rfl,cT (by show _=((((s.i+s.j) / 2)+1:Nat):Int);omega),rfl,rfl,rfl,rfl,rfl,rfl,rfl,rfl,Rf rfl,trivial⟩ rfl rfl,?_⟩;dsimp only;omega
   try simp only[ah]at c11
   have hq:¬j4 aK.f0 (aV P X Y S) (((a+b) / 2)+m) ((s.i+s.j) / 2):=by intro hc;have h2:=c11;rw[hpc]at h2;exact hc (bI.1 h2)
   refine go [.R1,.m,.N,.a,.Z] ?_;refine⟨⟨s.i,((s.i+s.j) / 2),by omega,by omega,by omega,s.yes,s.down hmono (by omega) hq⟩,ws,?_⟩;dsimp only;omega
  try simp only[ah]at c10
  have hge:s.j≤s.i:=by omega
  have hH:=jL ha hm hb hX hY ham hmb s hge;have n1:(X.take (s.i-a)).length=s.i-a:=by rw[length_take];omega
  have n2:(X.drop (s.i-a)).length=m-s.i:=by rw[length_drop];omega
  have n3:(Y.take (((a+b) / 2)-s.i)).length=((a+b) / 2)-s.i:=by rw[length_take];omega
  have n4:(Y.drop (((a+b) / 2)-s.i)).length=b-(((a+b) / 2)+m-s.i):=by rw[length_drop];omega
  have hXe:X=(X.take (s.i-a))++(X.drop (s.i-a)):=(take_append_drop _ _).symm;have hYe:Y=(Y.take (((a+b) / 2)-s.i))++(Y.drop (((a+b) / 2)-s.i)):=(take_append_drop _ _).symm;have hrow:(aV P X Y S)=(P++(X.take (s.i-a)))++((X.drop (s.i-a))++((Y.take (((a+b) / 2)-s.i))++((Y.drop (((a+b) / 2)-s.i))++S))):=by
   have:aV P ((X.take (s.i-a))++(X.drop (s.i-a))) ((Y.take (((a+b) / 2)-s.i))++(Y.drop (((a+b) / 2)-s.i))) S=(P++(X.take (s.i-a)))++((X.drop (s.i-a))++((Y.take (((a+b) / 2)-s.i))++((Y.drop (((a+b) / 2)-s.i))++S))):=by simp only[aV,append_assoc]
   rwa [←hXe,←hYe]at this
  refine AW.exit ?_;dsimp only[aD,au,reduceIte];refine go [.R,.m,.m,.N] ?_;refine qq (Qt.binOp rfl rfl (by first|exact ck (by omega)|rfl)) ?_;refine go [.a,.Z] ?_;refine AW.seq ?_;refine AW.cut [.sl 20 (.v (iv (s.i:Nat))),.sl 24 (.v (iv ((((a+b) / 2)+m-s.i):Nat))),.sl 18 (.v (iv (((a+b) / 2):Nat))),.sl 0 (.h aa []),.sl 1 (.v (iv (a:Nat))),.sl 3 (.v (iv (b:Nat))),.sl 4 (.f 52 []),.rt aa .row (tr (P++((X.take (s.i-a))++((Y.take (((a+b) / 2)-s.i))++((X.drop (s.i-a))++((Y.drop (((a+b) / 2)-s.i))++S))))))] ?_ ?_
  ·refine go [.R,.m,.N,.m,.b,.m,.N] ?_;apply aB.cut 3
   ·intro Kg12;refine aB.split 181 rfl (λg12=>?_) (λg12=>?_)
    ·have eg12:=g12
     try simp only[ah]at eg12
     refine go [.m,.m,.b,.N] ?_;exact bV 184 [182,183,184] (bY g12 _ undef) Kg12
    ·refine go [.x,.x,.x] ?_;exact bX 184 [182,183,184] (bU g12 undef _) Kg12
   refine qq (Qt.aG rfl rfl rfl) ?_;refine go [.Z] ?_;refine cd (λc13=>?_) λc13=>?_
   ·try simp only[ah]at c13
    refine go [.R1,.m,.m,.N,.m,.m,.m] ?_;refine aB.bB aa (tr ((P++(X.take (s.i-a)))++((X.drop (s.i-a))++((Y.take (((a+b) / 2)-s.i))++((Y.drop (((a+b) / 2)-s.i))++S))))) rfl (bJ hrow) ?_;refine go [.N] ?_;refine sp (aE.bW rfl (by decide) call221 rfl (ri (P++(X.take (s.i-a))) (X.drop (s.i-a)) (Y.take (((a+b) / 2)-s.i)) ((Y.drop (((a+b) / 2)-s.i))++S) _ _ _ (by rw[length_append,n1];omega) (by rw[length_append,n1,n2];omega) (by rw[length_append,n1,n2,n3];omega) (by omega) (by omega) (by simp only[length_append,n1,n2,n3,n4];omega)) rfl rfl rfl (aj rfl) rfl rfl) ?_;refine go [.Z] ?_;exact ar.bb ⟨rfl,cT (by omega),rfl,rfl,rfl,rfl,rfl,⟨_,rfl,(by rw[append_assoc];exact aw)⟩,trivial⟩ rfl rfl
   try simp only[ah]at c13
   refine go [.J] ?_;have hz:(X.drop (s.i-a)).length=0∨(Y.take (((a+b) / 2)-s.i)).length=0:=by omega
   have hr:(aV P X Y S)=(P++((X.take (s.i-a))++((Y.take (((a+b) / 2)-s.i))++((X.drop (s.i-a))++((Y.drop (((a+b) / 2)-s.i))++S))))):=hrow.trans (by
    rw[append_assoc];rcases hz with hz|hz<;>rw[eq_nil_of_length_eq_zero hz]<;>simp only[nil_append])
   exact ar.bb ⟨rfl,cT (by omega),rfl,rfl,rfl,rfl,rfl,⟨_,rfl,bJ hr⟩,trivial⟩ rfl rfl
  ·refine AW.seq ?_;refine AW.cut [.sl 20 (.v (iv (s.i:Nat))),.sl 24 (.v (iv ((((a+b) / 2)+m-s.i):Nat))),.sl 18 (.v (iv (((a+b) / 2):Nat))),.sl 0 (.h aa []),.sl 1 (.v (iv (a:Nat))),.sl 3 (.v (iv (b:Nat))),.sl 4 (.f 52 []),.rt aa .row (tr (P++(ap aK.f0 ((X.take (s.i-a))++(Y.take (((a+b) / 2)-s.i)))++((X.drop (s.i-a))++((Y.drop (((a+b) / 2)-s.i))++S)))))] ?_ ?_
   ·refine go [.R,.m,.N,.m,.b,.m,.N] ?_;apply aB.cut 3
    ·intro Kg14;refine aB.split 195 rfl (λg14=>?_) (λg14=>?_)
     ·have eg14:=g14
      try simp only[ah]at eg14
      refine go [.m,.m,.b,.N] ?_;exact bV 198 [196,197,198] (bY g14 _ undef) Kg14
     ·refine go [.x,.x,.x] ?_;exact bX 198 [196,197,198] (bU g14 undef _) Kg14
    refine qq (Qt.aG rfl rfl rfl) ?_;refine go [.Z] ?_;refine cd (λc15=>?_) λc15=>?_
    ·try simp only[ah]at c15
     refine go [.R1,.m,.m,.N,.m,.m,.m] ?_;refine aB.bB aa (tr (aV P (X.take (s.i-a)) (Y.take (((a+b) / 2)-s.i)) ((X.drop (s.i-a))++((Y.drop (((a+b) / 2)-s.i))++S)))) rfl (by exact aw) ?_;refine go [.N] ?_;refine sp (aE.bW rfl (by decide) call177 rfl (IH P (X.take (s.i-a)) (Y.take (((a+b) / 2)-s.i)) ((X.drop (s.i-a))++((Y.drop (((a+b) / 2)-s.i))++S)) _ _ _ (by omega) (by rw[n1];omega) (by rw[n1,n3];omega) (by rw[n1,n3];omega) (by omega) (by omega) (dm hX _) (dm hY _) (by simp only[length_append,n1,n2,n3,n4];omega)) rfl rfl rfl (aj rfl) rfl rfl) ?_;refine go [.Z] ?_;exact ar.bb ⟨rfl,rfl,rfl,rfl,rfl,rfl,rfl,⟨_,rfl,(by exact aw)⟩,trivial⟩ rfl rfl
    try simp only[ah]at c15
    refine go [.J] ?_;have hz:(X.take (s.i-a)).length=0∨(Y.take (((a+b) / 2)-s.i)).length=0:=by omega
    have hr:ap aK.f0 ((X.take (s.i-a))++(Y.take (((a+b) / 2)-s.i)))=(X.take (s.i-a))++(Y.take (((a+b) / 2)-s.i)):=by
     rcases hz with hz|hz
     ·exact eU (dm hY _) hz
     ·exact eR (dm hX _) hz
    exact ar.bb ⟨rfl,rfl,rfl,rfl,rfl,rfl,rfl,⟨_,rfl,(by rw[hr,append_assoc];exact aw)⟩,trivial⟩ rfl rfl
   ·refine go [.R,.m,.N,.m,.b,.m,.N] ?_;apply aB.cut 3
    ·intro Kg16;refine aB.split 209 rfl (λg16=>?_) (λg16=>?_)
     ·have eg16:=g16
      try simp only[ah]at eg16
      refine go [.m,.m,.b,.N] ?_;exact bV 212 [210,211,212] (bY g16 _ undef) Kg16
     ·refine go [.x,.x,.x] ?_;exact bX 212 [210,211,212] (bU g16 undef _) Kg16
    refine qq (Qt.aG rfl rfl rfl) ?_;refine go [.Z] ?_;refine cd (λc17=>?_) λc17=>?_
    ·try simp only[ah]at c17
     refine go [.R1,.m,.m,.N,.m,.m,.m] ?_;refine aB.bB aa (tr (aV (P++ap aK.f0 ((X.take (s.i-a))++(Y.take (((a+b) / 2)-s.i)))) (X.drop (s.i-a)) (Y.drop (((a+b) / 2)-s.i)) S)) rfl (bJ (by simp only[aV,append_assoc])) ?_;refine go [.N] ?_;refine sp (aE.bW rfl (by decide) call177 rfl (IH (P++ap aK.f0 ((X.take (s.i-a))++(Y.take (((a+b) / 2)-s.i)))) (X.drop (s.i-a)) (Y.drop (((a+b) / 2)-s.i)) S _ _ _ (by rw[length_append,aU,length_append,n1,n3];omega) (by rw[length_append,aU,length_append,n1,n3,n2];omega) (by rw[length_append,aU,length_append,n1,n3,n2,n4];omega) (by rw[n2,n4];omega) (by omega) (by omega) (dl hX _) (dl hY _) (by rw[length_append,aU,length_append,n1,n3,n2,n4];omega)) rfl rfl rfl (aj rfl) rfl rfl) ?_;refine go [.N] ?_;refine aB.bB aa (tr (P++(ap aK.f0 (X++Y)++S))) rfl (by rw[hH];simp only[append_assoc];exact aw) ?_;refine go [.Z] ?_;refine⟨.inr rfl,[],.nil,?_⟩;refine⟨λn=>n,rfl,λ_ _=>rfl,nodup_nil,(by simp),?_⟩;intro p hp;cases List.mem_singleton.1 hp;exact aq rfl
    try simp only[ah]at c17
    have hz:(X.drop (s.i-a)).length=0∨(Y.drop (((a+b) / 2)-s.i)).length=0:=by omega
    have hr:ap aK.f0 ((X.drop (s.i-a))++(Y.drop (((a+b) / 2)-s.i)))=(X.drop (s.i-a))++(Y.drop (((a+b) / 2)-s.i)):=by
     rcases hz with hz|hz
     ·exact eU (dl hY _) hz
     ·exact eR (dl hX _) hz
    refine AW.bB aa (tr (P++(ap aK.f0 (X++Y)++S))) rfl (by rw[hH,hr];simp only[append_assoc];exact aw) ?_;refine go [.J] ?_;refine⟨.inr rfl,[],.nil,?_⟩;refine⟨λn=>n,rfl,λ_ _=>rfl,nodup_nil,(by simp),?_⟩;intro p hp;cases List.mem_singleton.1 hp;exact aq rfl
end Go.Proofs.YtekcnnngjoonbaaGreat.VM

