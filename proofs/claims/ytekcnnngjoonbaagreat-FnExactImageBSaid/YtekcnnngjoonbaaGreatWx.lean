/- Contracts. No conditions. -/
import Derived.Test.YtekcnnngjoonbaaGreatWm
import Derived.Test.YtekcnnngjoonbaaGreatWr
import Derived.Test.YtekcnnngjoonbaaGreatWw
set_option linter.all false
set_option maxHeartbeats 8000000
set_option maxRecDepth 10000
namespace Go.Proofs.YtekcnnngjoonbaaGreat.VM
open List Nat
open Go Go.RowKit Go.Proofs Go.Proofs.Tryz
theorem pI(p:dd):a_ prog 80 [.g [.v (iv p.Id),.h aa []]] [.rt aa .ro (tr p.bo)] (λy _=>y= .v (.bool (fh p.bo))):=by
 refine ob func80 ntmps80 ?_;refine AW.len (aa) [] rfl (by simp[bT]) rfl (λhl=>?_);refine go [.R,.B,.N,.a,.Z,.R2,.a,.Z] ?_;refine AW.block ?_;refine AW.aL (λi:q_ (iM p.bo) p.bo.length=>[.sl 3 (.v (iv i.k)),.rt 1 .box (T.s 2 1 λk c=>([(T.v (iv p.Id),none),(T.j,none)].getD (k*2+c) (T.j,none)).fst),.al 1 1 (.h aa []),.rt aa .ro (tr p.bo),.sl 1 (.p 1 [] 2 0 0)]) (λi=>p.bo.length-i.k) ⟨0,zero_le _,λ_ h=>absurd h (by omega)⟩ (ws) ?_;intro i;have hle:=i.le;refine go [.R2,.m,.N,.f,.l,.h,.N,.b,.Z] ?_;refine cd (λc1=>?_) λc1=>?_
 ·try simp only[ah]at c1
  refine jd (AW.seq (AW.block (sr ?_)));refine go [.f,.l,.N,.m,.i,.l,.N,.h,.a,.Z,.R,.m,.N] ?_;refine cv call135 rfl rfl (cD _ _ _) ?_;refine go [.N,.n,.m] ?_;apply aB.cut 14
  ·intro Kg2;refine aB.bq 21 rfl (λg2=>?_) (λg2=>?_)
   ·have eg2:=g2
    try simp only[ah]at eg2
    refine go [.m,.N,.b,.m] ?_;apply aB.cut 2
    ·intro Kg3;refine aB.split 24 rfl (λg3=>?_) (λg3=>?_)
     ·have eg3:=g3
      try simp only[ah]at eg3
      refine go [.m,.N,.b] ?_;exact bV 26 [25,26] (bY g3 _ undef) Kg3
     ·refine go [.x,.x] ?_;exact bX 26 [25,26] (bU g3 undef _) Kg3
    refine qg (nF g2) (Qt.aG rfl rfl rfl) ?_;refine go [.m,.N] ?_;apply aB.cut 6
    ·intro Kg4;refine aB.split 28 rfl (λg4=>?_) (λg4=>?_)
     ·have eg4:=g4
      try simp only[ah]at eg4
      refine go [.m,.f,.l,.N,.h,.b,.b,.N] ?_;exact bV 34 [29,30,31,32,33,34] (bY g4 _ undef) Kg4
     ·refine go [.x,.x,.x,.x,.N,.x,.x] ?_;exact bX 34 [29,30,31,32,33,34] (bU g4 undef _) Kg4
    refine qg (nF g2) (Qt.aG rfl rfl rfl) ?_;exact bV 35 [22,23,24,25,26,27,28,29,30,31,32,33,34,35] (bU g2 _ undef) Kg2
   ·refine go [.x,.x,.x,.x,.N,.x,.x,.x,.x,.N,.x,.x,.x,.x,.N,.x,.x] ?_;exact bX 35 [22,23,24,25,26,27,28,29,30,31,32,33,34,35] (bY g2 undef _) Kg2
  refine qq (Qt.br rfl rfl rfl) ?_;refine go [.Z] ?_;refine cd (λc5=>?_) λc5=>?_
  ·have k5:=c5
   try simp only[ah]at c5
   have hq:iM p.bo i.k=false:=by
    have hk:=k5;simp only[iM]
    grind
   refine go [.R,.a,.Z] ?_;refine aQ 2 ?_;rw[show fh p.bo=false from i.stop (by omega) hq];rfl
  have k5:=c5
  try simp only[ah]at c5
  have hq:iM p.bo i.k=true:=by
   have hk:=k5;simp only[iM]
   grind
  refine go [.J,.R1,.m,.N,.b,.a,.Z] ?_;refine⟨⟨i.k+1,by omega,i.next hq⟩,ws,?_⟩;show p.bo.length-(i.k+1)<p.bo.length-i.k;omega
 try simp only[ah]at c1
 refine AW.exit ?_;dsimp only[aD,au,reduceIte];refine go [.R,.a,.Z] ?_;refine aQ 2 ?_;rw[show fh p.bo=true from i.full (by omega)];rfl
open Go Go.RowKit Go.Proofs Go.Proofs.Tryz
def yi(jt:List Int)(f:Int):List Int:=(jt.drop (f*4).toNat).take 4
def j5(jt fs:List Int)(k:Nat):List Int:=((fs.take k).map (yi jt)).flatten
theorem eY(l:List Int)(hs:l.length≤4194304):a_ prog 39 [.h aa []] [.rt aa .ro (tr l)] (j6 (.h 0 []) [(0,.row,tr l)]):=by
 refine ob func39 ntmps39 ?_;refine sr ?_;refine qn ?_;refine dq ?_;refine qm ?_;refine aB.nS rfl rfl rfl (by decide) rfl rfl rfl kb ?_;intro b1 hb1;refine nc (λc2=>?_) λc2=>?_
 ·try simp only[ah]at c2
  refine sr ?_;refine qn ?_;have hl0:l=[]:=eq_nil_of_length_eq_zero (hb1 c2);subst hl0;refine AW.lm 2 900 1 (by omega) rfl rfl (by decide) ?_;refine AW.bB 900 (tr ([]:List Int)) rfl bK ?_;refine aQ 2 ?_;refine⟨λ_=>900,rfl,aj rfl,?_⟩;intro r hr;cases List.mem_singleton.1 hr;exact⟨by simp,aq rfl⟩
 try simp only[ah]at c2
 refine jd (sr ?_);refine sp sS ?_;refine nm ?_;refine qm ?_;refine sp (by first|exact aE.bN rfl (by decide) (by decide) rfl rfl (by omega)|exact aE.bc rfl (by decide) (by decide) rfl rfl rfl (by omega)) ?_;refine nm ?_;refine qn ?_;refine AW.bB 7 (tr l) rfl (dA (α:=Int)) ?_;refine aQ 2 ?_;refine⟨λ_=>7,rfl,aj rfl,?_⟩;intro r hr;cases List.mem_singleton.1 hr;exact⟨by simp,aq rfl⟩
open Go Go.RowKit Go.Proofs Go.Proofs.Tryz
theorem mV{jt fs:List Int}{k:Nat}(h:k<fs.length):j5 jt fs (k+1)=j5 jt fs k++yi jt (fs.getD k En.ab):=by
 unfold j5;rw[take_add_one,getElem?_eq_getElem h,map_append,flatten_append,getD_eq_getElem?_getD,getElem?_eq_getElem h];simp
theorem sc(jt:List Int)(f:Int):(yi jt f).length≤4:=by
 unfold yi;rw[length_take];omega
theorem pw(jt fs:List Int):∀k,k≤fs.length→(j5 jt fs k).length≤4*k
 | 0,_=>by simp[j5]
 | k+1,h=>by
  rw[mV (by omega),length_append];have:=pw jt fs k (by omega);have:=sc jt (fs.getD k En.ab);omega
theorem lf{a b:Int}(h:b≠0):bR .rem (iv a) (iv b)=some (iv (a.tmod b)):=by
 show(if b=0 then none else some (Value.int .i64 (a.tmod b)))=_;rw[if_neg h]
theorem pq(jt:List Int)(f:Int)(hr:jt.length=64)(h0:0≤f)(h1:f≤15):a_ prog 117 [.h aa [],.v (iv f)] [.rt aa .ro (tr jt)] (ch (.a aa [] 1 (f*4).toNat (((f+1)*4).toNat-(f*4).toNat)) [] []):=by
 refine ob func117 ntmps117 ?_;refine sr ?_;refine sx ?_;refine qm ?_;refine mn ?_;refine qq (Qt.binOp rfl rfl (by first|exact dM (by omega)|rfl)) ?_;refine qm ?_;refine ba ?_;refine nm ?_;refine qq (Qt.binOp rfl rfl (by first|exact dM (by omega)|rfl)) ?_;refine qq (Qt.An rfl rfl rfl kb fP (by decide) (rk rfl (by omega)) (rk rfl (by omega)) (by omega) (by omega)) ?_;refine qr 4 ?_;exact⟨λn=>n,rfl,λ_ _=>rfl,nodup_nil,by simp,by simp⟩
/-! the buddies, as plain functions -/
def gu(u:List Bool)(f:Nat):Nat→Option (List Bool)
 | 0=>some u
 | c+1=>if u.getD f false then none else gu (u.set f true) (f+1) c
def row(bad bud:Nat→Bool)(pos:Nat→Nat)(m:Nat):Nat→Nat→List Bool→Option (List Bool)
 | 0,_,u=>some u
 | c+1,j,u=>if bad j then none else match gu u (pos j) m with
  | none=>none
  | some u'=>if bud j then none else row bad bud pos m c (j+1) u'
theorem uX{bad bud:Nat→Bool}{pos:Nat→Nat}{m:Nat}:∀{c j:Nat} {u v:List Bool},row bad bud pos m c j u=some v→∀i,j≤i→i<j+c→bad i=false
 | 0,j,u,v,_,i,h1,h2=>by omega
 | c+1,j,u,v,h,i,h1,h2=>by
  rw[row]at h;cases hb:bad j with
  | true=>rw[hb,if_pos rfl]at h;cases h
  | false=>
   rw[hb,if_neg (by simp)]at h;rcases Nat.eq_or_lt_of_le h1 with rfl|hlt
   ·exact hb
   ·cases hp:gu u (pos j) m with
    | none=>rw[hp]at h;cases h
    | some u'=>
     rw[hp]at h;simp only at h;split at h
     ·cases h
     ·exact uX h i (by omega) (by omega)
theorem Ab{bad lj oC:Nat→Bool}{pos:Nat→Nat}{m n:Nat}(hSI:∀i,i<n→bad i=false→lj i=true→oC i=true)
  (hIS:∀i,i<n→bad i=false→oC i=true→lj i=false→(∃i',i'<i∧lj i'=true)∨∃q,i<q∧q<n∧bad q=true):∀{c j:Nat} {u:List Bool},j+c=n→(∀i,i<j→lj i=false)→row bad oC pos m c j u=row bad lj pos m c j u
 | 0,_,_,_,_=>rfl
 | c+1,j,u,hn,hinv=>by
  rw[row,row];cases hb:bad j with
  | true=>rfl
  | false=>
   simp only[Bool.false_eq_true,if_false];cases hp:gu u (pos j) m with
   | none=>rfl
   | some u'=>
    simp only;cases hS:lj j with
    | true=>
     simp only[hSI j (by omega) hb hS,if_true]
    | false=>
     simp only[Bool.false_eq_true,if_false];cases hI:oC j with
     | false=>
      simp only[Bool.false_eq_true,if_false];exact Ab hSI hIS (by omega) λi hi=>by
       rcases Nat.lt_or_ge i j with h|h
       ·exact hinv i h
       ·rw[show i=j by omega];exact hS
     | true=>
      simp only[if_true]
      symm
      rcases hIS j (by omega) hb hI hS with⟨i',h1,h2⟩|⟨q,h1,h2,h3⟩
      ·rw[hinv i' h1]at h2;cases h2
      ·cases hr:row bad lj pos m c (j+1) u' with
       | none=>rfl
       | some v=>
        have:=uX hr q (by omega) (by omega);rw[h3]at this;cases this
def m4(R:Nat→List Bool→Option (List Bool)):Nat→Nat→List Bool→Bool
 | 0,_,_=>true
 | c+1,k,u=>match R k u with
  | none=>false
  | some u'=>m4 R c (k+1) u'
theorem pd{R R':Nat→List Bool→Option (List Bool)}(h:∀k u,k<5→R k u=R' k u):∀{c k:Nat} {u:List Bool},k+c=5→m4 R c k u=m4 R' c k u
 | 0,_,_,_=>rfl
 | c+1,k,u,hk=>by
  rw[m4,m4,h k u (by omega)];cases R' k u with
  | none=>rfl
  | some u'=>exact pd h (by omega)
def bad(k:Nat)(l:List Int)(j:Nat):Bool:=decide (l.getD j 0<0∨16≤l.getD j 0∨l.getD j 0%(2 ^ k:Nat)≠0∨(0<j∧l.getD j 0≤l.getD (j-1) 0))
def lj(k:Nat)(l:List Int)(j:Nat):Bool:=decide (k<4∧l.getD j 0%(2 ^ (k+1):Nat)=0∧(l.getD j 0+(2 ^ k:Nat))∈l)
def oC(k:Nat)(l:List Int)(j:Nat):Bool:=decide (k<4∧(((l.getD j 0).toNat ^^^ 2 ^ k:Nat):Int)∈l)
def gg(l:List Int)(j:Nat):Nat:=(l.getD j 0).toNat
def AP(free:List (List Int))(k:Nat)(u:List Bool):Option (List Bool):=row (bad k (free.getD k [])) (lj k (free.getD k [])) (gg (free.getD k [])) (2 ^ k) (free.getD k []).length 0 u
def Bq(free:List (List Int))(k:Nat)(u:List Bool):Option (List Bool):=row (bad k (free.getD k [])) (oC k (free.getD k [])) (gg (free.getD k [])) (2 ^ k) (free.getD k []).length 0 u
def sD(free:List (List Int)):Bool:=if free.length=5 then m4 (AP free) 5 0 (replicate 16 false)else false
def Ap(free:List (List Int)):Bool:=if free.length=5 then m4 (Bq free) 5 0 (replicate 16 false)else false
theorem qR:∀n,n<16→∀k,k<4→n%2 ^ k=0→n ^^^ 2 ^ k=if n%2 ^ (k+1)=0 then n+2 ^ k else n-2 ^ k:=by decide
theorem x6:∀n,n<16→∀k,k<4→n%2 ^ k=0→n%2 ^ (k+1)≠0→2 ^ k≤n∧(n-2 ^ k)%2 ^ (k+1)=0:=by decide
theorem qA{l:List Int}{k i:Nat}:∀{d:Nat},(∀q,i<q→q≤i+d→bad k l q=false)→l.getD i 0≤l.getD (i+d) 0
 | 0,_=>Int.le_refl _
 | d+1,h=>by
  have h1:=qA (l:=l) (k:=k) (i:=i) (d:=d) λq h1 h2=>h q h1 (by omega);have h2:=h (i+(d+1)) (by omega) (by omega);simp only[bad,decide_eq_false_iff_not,not_or,not_and]at h2;have h3:=h2.2.2.2 (by omega);rw[show i+(d+1)-1=i+d by omega]at h3;omega
theorem BE(free:List (List Int)):Ap free=sD free:=by
 unfold Ap sD;split
 ·refine pd (λk u hk=>?_) (by omega);unfold Bq AP
  generalize free.getD k []=l
  refine Ab (n:=l.length) (λi hi hb hs=>?_) (λi hi hb hI hS=>?_) (by omega) (by omega)
  ·simp only[bad,decide_eq_false_iff_not,not_or,not_and,Decidable.not_not]at hb;obtain⟨b1,b2,b3,_⟩:=hb;simp only[lj,oC,decide_eq_true_eq]at hs ⊢;obtain⟨hk4,h2,h3⟩:=hs;refine⟨hk4,?_⟩;obtain⟨n,hn⟩:=Int.eq_ofNat_of_zero_le (by omega:0≤l.getD i 0);rw[hn]at b2 b3 h2 h3 ⊢;rw[Int.toNat_natCast,qR n (by omega) k hk4 (by omega),if_pos (by omega)];rw[Int.natCast_add];exact h3
  ·simp only[bad,decide_eq_false_iff_not,not_or,not_and,Decidable.not_not]at hb;obtain⟨b1,b2,b3,_⟩:=hb;simp only[lj,oC,decide_eq_true_eq,decide_eq_false_iff_not,not_and]at hI hS;obtain⟨hk4,h2⟩:=hI;obtain⟨n,hn⟩:=Int.eq_ofNat_of_zero_le (by omega:0≤l.getD i 0);rw[hn]at b2 b3 h2 hS;rw[Int.toNat_natCast,qR n (by omega) k hk4 (by omega)]at h2
   by_cases h0:n%2 ^ (k+1)=0
   ·rw[if_pos h0,Int.natCast_add]at h2;exact absurd h2 (hS hk4 (by omega))
   ·rw[if_neg h0]at h2;obtain⟨m1,m2⟩:=x6 n (by omega) k hk4 (by omega) h0;obtain⟨i',hi',he⟩:=List.mem_iff_getElem.1 h2;have hg:l.getD i' 0=((n-2 ^ k:Nat):Int):=by rw[←he];simp[hi']
    have hp:0<2 ^ k:=Nat.pow_pos (by omega);rcases Nat.lt_trichotomy i' i with hlt|rfl|hgt
    ·refine .inl ⟨i',hlt,?_⟩;simp only[lj,decide_eq_true_eq];refine⟨hk4,by rw[hg];omega,?_⟩;rw[hg,←Int.natCast_add,show n-2 ^ k+2 ^ k=n by omega];have:l.getD i 0=l[i]:=by simp[hi]
     rw[show((n:Nat):Int)=l[i] by rw[←this,hn]];exact getElem_mem hi
    ·rw[hn]at hg;have:(n:Int)=((n-2 ^ k:Nat):Int):=hg;omega
    ·refine .inr ?_;apply Classical.byContradiction;intro hno;have hs:=qA (l:=l) (k:=k) (i:=i) (d:=i'-i) λq h1 h2=>by
      cases hq:bad k l q with
      | false=>rfl
      | true=>exact absurd ⟨q,h1,by omega,hq⟩ hno
     rw[show i+(i'-i)=i' by omega,hg,hn]at hs;have:(n:Int)≤((n-2 ^ k:Nat):Int):=hs;omega
 ·rfl
theorem qw{u:List Bool}{f c:Nat}(h:u.getD f false=true)(hc:0<c):gu u f c=none:=by
 obtain⟨d,rfl⟩:∃d,c=d+1:=⟨c-1,by omega⟩
 rw[gu,if_pos h]
theorem o8{u:List Bool}{f c:Nat}(h:u.getD f false=false)(hc:0<c):gu u f c=gu (u.set f true) (f+1) (c-1):=by
 obtain⟨d,rfl⟩:∃d,c=d+1:=⟨c-1,by omega⟩
 rw[gu,if_neg (by rw[h];simp),Nat.add_sub_cancel]
section
variable{bad bud:Nat→Bool}{pos:Nat→Nat}{m c j:Nat}{u u':List Bool}
theorem wF(h:bad j=true)(hc:0<c):row bad bud pos m c j u=none:=by
 obtain⟨d,rfl⟩:∃d,c=d+1:=⟨c-1,by omega⟩
 rw[row,if_pos h]
theorem p8(h:gu u (pos j) m=none)(hc:0<c):row bad bud pos m c j u=none:=by
 obtain⟨d,rfl⟩:∃d,c=d+1:=⟨c-1,by omega⟩
 rw[row];split
 ·rfl
 ·rw[h]
theorem wN(h:gu u (pos j) m=some u')(hb:bud j=true)(hc:0<c):row bad bud pos m c j u=none:=by
 obtain⟨d,rfl⟩:∃d,c=d+1:=⟨c-1,by omega⟩
 rw[row];split
 ·rfl
 ·rw[h];try simp only[hb,if_true]
theorem uJ(h0:bad j=false)(h:gu u (pos j) m=some u')(hb:bud j=false)(hc:0<c):row bad bud pos m c j u=row bad bud pos m (c-1) (j+1) u':=by
 obtain⟨d,rfl⟩:∃d,c=d+1:=⟨c-1,by omega⟩
 rw[row,if_neg (by rw[h0];simp),h];simp only[hb,Bool.false_eq_true,if_false,Nat.add_sub_cancel]
end
section
variable{R:Nat→List Bool→Option (List Bool)}{c k:Nat}{u u':List Bool}
theorem ic(h:R k u=none)(hc:0<c):m4 R c k u=false:=by
 obtain⟨d,rfl⟩:∃d,c=d+1:=⟨c-1,by omega⟩
 rw[m4,h]
theorem qI(h:R k u=some u')(hc:0<c):m4 R c k u=m4 R (c-1) (k+1) u':=by
 obtain⟨d,rfl⟩:∃d,c=d+1:=⟨c-1,by omega⟩
 rw[m4,h,Nat.add_sub_cancel]
end
structure Da(R:Nat→List Bool→Option (List Bool))(ok:Bool) where
 k:Nat
 le:k≤5
 u:List Bool
 ul:u.length=16
 eq:ok=m4 R (5-k) k u
structure C0(l:List Int)(bud:Nat→Bool)(kk:Nat)(r:Option (List Bool)) where
 k:Nat
 le:k≤l.length
 u:List Bool
 ul:u.length=16
 eq:r=row (bad kk l) bud (gg l) (2 ^ kk) (l.length-k) k u
structure Eo(r:Option (List Bool))(s e:Nat) where
 k:Nat
 le:k≤e
 ge:s≤k
 u:List Bool
 ul:u.length=16
 eq:r=gu u k (e-k)
theorem nP(n:Nat):(T.s 1 n λ_ j=>[T.v (.bool false)].getD j .j).bb (tr (replicate n false)):=by
 refine⟨λk c=>(En.cs ((replicate n false).getD k En.ab)).getD c .j,by simp only[tr,length_replicate];rfl,λk c hk hc=>?_⟩
 match c,hc with
 | 0,_=>
  show T.bb (.v (.bool false)) (.v (.bool ((replicate n false).getD k En.ab)));rw[show(replicate n false).getD k En.ab=false by simp[getD_eq_getElem?_getD,getElem?_replicate,hk]];exact aw
 | c+1,hc=>exact absurd hc (by omega)
theorem BJ{k:Nat}(h:k≤5):bR .shl (iv 1) (.int .u64 (IntKind.u64.wrap (k:Int)))=some (iv ((2 ^ k:Nat):Int)):=by
 match k,h with
 | 0,_=>rfl
 | 1,_=>rfl
 | 2,_=>rfl
 | 3,_=>rfl
 | 4,_=>rfl
 | 5,_=>rfl
 | k+6,h=>omega
theorem nW{k:Nat}(h:k≤5):bR .shl (iv 1) (iv (k:Int))=some (iv ((2 ^ k:Nat):Int)):=by
 match k,h with
 | 0,_=>rfl
 | 1,_=>rfl
 | 2,_=>rfl
 | 3,_=>rfl
 | 4,_=>rfl
 | 5,_=>rfl
 | k+6,h=>omega
theorem CE{k:Nat}(h:k<5):0<2 ^ k∧2 ^ k≤16:=by
 match k,h with
 | 0,_=>decide
 | 1,_=>decide
 | 2,_=>decide
 | 3,_=>decide
 | 4,_=>decide
 | k+5,h=>omega
theorem tR{n k:Nat}(hn:n<16)(hk:k<5)(h:n%2 ^ k=0):n+2 ^ k≤16:=by
 have:∀n,n<16→∀k,k<5→n%2 ^ k=0→n+2 ^ k≤16:=by decide
 exact this n hn k hk h
theorem yI{k j:Nat}{l:List Int}(h:bad k l j=false):0≤l.getD j 0∧l.getD j 0<16∧l.getD j 0%(2 ^ k:Nat)=0:=by
 simp only[bad,decide_eq_false_iff_not,not_or,Decidable.not_not]at h;omega
open Go Go.RowKit
theorem Bx{k j:Nat}{l:List Int}:(decide (l.getD j 0<0) || decide (l.getD j 0≥16) || (l.getD j 0).tmod ((2 ^ k:Nat):Int) != 0 || decide ((j:Int)>0)&&decide (l.getD ((j:Int)-1).toNat 0≥l.getD j 0))=bad k l j:=by
 rw[Bool.eq_iff_iff];have hj:((j:Int)-1).toNat=j-1:=by omega
 simp only[bad,hj,Bool.or_eq_true,Bool.and_eq_true,decide_eq_true_eq,bne_iff_ne,ne_eq]
 generalize l.getD j 0=x
 generalize l.getD (j-1) 0=y
 generalize ((2 ^ k:Nat):Int)=z
 rcases Int.lt_or_le x 0 with h|h
 ·simp[h]
 ·rw[Int.tmod_eq_emod_of_nonneg h];have hj2:((j:Int)>0)↔0<j:=by omega
  simp only[hj2,ge_iff_le];constructor
  ·rintro (((h1|h1)|h1)|h1)
   ·exact .inl h1
   ·exact .inr (.inl h1)
   ·exact .inr (.inr (.inl h1))
   ·exact .inr (.inr (.inr h1))
  ·rintro (h1|h1|h1|h1)
   ·exact .inl (.inl (.inl h1))
   ·exact .inl (.inl (.inr h1))
   ·exact .inl (.inr h1)
   ·exact .inr h1
theorem BA{k j:Nat}{l:List Int}(h:0≤l.getD j 0):(decide ((k:Int)<4)&&(l.getD j 0).tmod (2*((2 ^ k:Nat):Int))==0&&decide (l.getD j 0+((2 ^ k:Nat):Int)∈l))=lj k l j:=by
 rw[Bool.eq_iff_iff];simp only[lj,Bool.and_eq_true,decide_eq_true_eq,beq_iff_eq];rw[Int.tmod_eq_emod_of_nonneg h,show(2*((2 ^ k:Nat):Int))=((2 ^ (k+1):Nat):Int) by rw[Nat.pow_succ];omega];have hk:(k:Int)<4↔k<4:=by omega
 rw[hk,and_assoc]
open Go Go.RowKit
def qJ(l:List Int):Nat→Int
 | 0=> -1
 | j+1=>l.getD j 0
theorem Bt{k j:Nat}{l:List Int}:(!(frame (l.getD j 0)) || decide (l.getD j 0≤qJ l j) || (l.getD j 0).tmod ((2 ^ k:Nat):Int) != 0)=bad k l j:=by
 rw[Bool.eq_iff_iff];simp only[bad,frame,Bool.or_eq_true,Bool.not_eq_true',Bool.and_eq_false_iff,decide_eq_true_eq,decide_eq_false_iff_not,bne_iff_ne,ne_eq];have hl:0≤l.getD j 0→(l.getD j 0≤qJ l j↔(0<j∧l.getD j 0≤l.getD (j-1) 0)):=by
  intro h
  match j with
  | 0=>simp only[qJ];omega
  | j+1=>simp only[qJ,Nat.add_sub_cancel];omega
 revert hl
 generalize l.getD j 0=x
 generalize l.getD (j-1) 0=y
 generalize qJ l j=w
 generalize ((2 ^ k:Nat):Int)=z
 intro hl;rcases Int.lt_or_le x 0 with h|h
 ·simp[h]
  try omega
 ·rw[Int.tmod_eq_emod_of_nonneg h,hl h];constructor
  ·rintro ((h1|h1)|h1)
   ·omega
   ·exact .inr (.inr (.inr h1))
   ·exact .inr (.inr (.inl h1))
  ·rintro (h1|h1|h1|h1)
   ·omega
   ·exact .inl (.inl (.inr (by omega)))
   ·exact .inr h1
   ·exact .inl (.inr h1)
theorem Bz{k j:Nat}{l:List Int}:(decide ((k:Int)<4)&&decide (((gg l j ^^^ 2 ^ k:Nat):Int)∈l))=oC k l j:=by
 have hk:(k:Int)<4↔k<4:=by omega
 unfold gg oC;rw[Bool.eq_iff_iff];simp only[Bool.and_eq_true,decide_eq_true_eq];rw[hk]
open Go Go.RowKit
def ua(S:List (List Int))(f:Int)(o:Nat):Prop:=(f-f%((2 ^ o:Nat):Int))∈S.getD o En.ab
instance(S:List (List Int))(f:Int)(o:Nat):Decidable (ua S f o):=inferInstanceAs (Decidable (_∈_))
def sY(S:List (List Int))(f:Int):Bool:=decide (∃o,o<S.length∧ua S f o)
structure m8(S:List (List Int))(f:Int) where
 k:Nat
 le:k≤S.length
 no:∀j,j<k→¬ua S f j
theorem m8.yes{S:List (List Int)}{f:Int}(i:m8 S f)(hk:i.k<S.length)(h:ua S f i.k):sY S f=true:=decide_eq_true ⟨_,hk,h⟩
theorem m8.not{S:List (List Int)}{f:Int}(i:m8 S f)(hk:¬i.k<S.length):sY S f=false:=decide_eq_false λ⟨o,h1,h2⟩=>i.no o (by omega) h2
theorem m8.next{S:List (List Int)}{f:Int}(i:m8 S f)(h:¬ua S f i.k):∀j,j<i.k+1→¬ua S f j:=λj hj=>by
 rcases Nat.lt_or_ge j i.k with h1|h1
 ·exact i.no j h1
 ·rw[show j=i.k by omega];exact h
theorem jw{f:Int}:frame f=true↔0≤f∧f<16:=by
 simp only[frame,Bool.and_eq_true,decide_eq_true_eq];omega
theorem yN{f:Int}{k:Nat}(h:0≤f):f.tmod ((2 ^ k:Nat):Int)=f%((2 ^ k:Nat):Int)∧0≤f%((2 ^ k:Nat):Int)∧f%((2 ^ k:Nat):Int)≤f:=by
 obtain⟨n,rfl⟩:=Int.eq_ofNat_of_zero_le h;refine⟨Int.tmod_eq_emod_of_nonneg h,?_,?_⟩
 ·exact Int.emod_nonneg _ (by have:0<2 ^ k:=Nat.pow_pos (by omega);omega)
 ·have h1:((n:Int)%((2 ^ k:Nat):Int))=((n%2 ^ k:Nat):Int):=by rw[Int.natCast_emod]
  have h2:n%2 ^ k≤n:=mod_le _ _;rw[h1];exact Int.ofNat_le.2 h2
theorem wI(l:List Int)(x:Int):ll l x=decide (x∈l):=by
 rw[Bool.eq_iff_iff,tl,decide_eq_true_eq]
open Go Go.RowKit Go.Proofs Go.Proofs.Tryz
theorem o9(l:List Int)(x:Int):a_ prog 143 [.h aa [],.v (iv x)] [.rt aa .ro (tr l)] (λy _=>y= .v (.bool (decide (x∈l)))):=wI l x ▸ gZ l x
theorem kY(l:List Int)(x:Int):a_ prog 155 [.h aa [],.v (iv x)] [.rt aa .ro (tr l)] (λy _=>y= .v (.bool (decide (x∈l)))):=wI l x ▸ jn l x
theorem xU:∀n:Nat,n<16→∀k:Nat,k<4→bits .xor .i64 (n:Int) ((2 ^ k:Nat):Int)=(((n ^^^ (2 ^ k):Nat):Nat):Int):=by decide +kernel
theorem CD(n:Nat)(hn:n<16)(k:Nat)(hk:k<4):bR .xor (iv (n:Int)) (iv ((2 ^ k:Nat):Int))=some (iv (((n ^^^ (2 ^ k):Nat):Nat):Int)):=by
 show some (Value.int .i64 (bits .xor .i64 (n:Int) ((2 ^ k:Nat):Int)))=_;rw[xU n hn k hk]

theorem oQ(k:Nat)(hk:k≤5):a_ prog 142 [.v (iv k)] [] (λy _=>y= .v (iv ((2 ^ k:Nat):Int))):=by
 refine ob func142 ntmps142 ?_;refine go [.R,.a,.Z,.R,.m] ?_;refine qq (Qt.cO rfl rfl underlying205) ?_;refine go [.N] ?_;refine qq (Qt.binOp rfl rfl (BJ hk)) ?_;refine go [.a,.Z] ?_;refine aQ 2 ?_;rfl
theorem va(n k:Nat)(hn:n<16)(hk:k<4):a_ prog 156 [.v (iv n),.v (iv k)] [] (λy _=>y= .v (iv ((n ^^^ (2 ^ k):Nat):Int))):=by
 refine ob func156 ntmps156 ?_;refine go [.R,.a,.Z,.R,.m,.m,.N] ?_;refine qq (Qt.binOp rfl rfl (nW (by omega))) ?_;refine qq (Qt.binOp rfl rfl (CD n hn k hk)) ?_;refine go [.a,.Z] ?_;refine aQ 4 ?_;rfl
end Go.Proofs.YtekcnnngjoonbaaGreat.VM

