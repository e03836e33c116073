/- Contracts. No conditions. -/
import Derived.Test.YtekcnnngjoonbaaGreatWj
import Derived.Test.YtekcnnngjoonbaaGreatWl
import Derived.Test.YtekcnnngjoonbaaGreatWm
set_option linter.all false
set_option maxHeartbeats 8000000
set_option maxRecDepth 10000
namespace Go.Proofs.YtekcnnngjoonbaaGreat.VM
open List Nat
/-! the buddies, as plain functions -/
def gD(u:List Bool)(f:Nat):Nat→Option (List Bool)
 | 0=>some u
 | c+1=>if u.getD f false then none else gD (u.set f true) (f+1) c
def row(bad bud:Nat→Bool)(pos:Nat→Nat)(m:Nat):Nat→Nat→List Bool→Option (List Bool)
 | 0,_,u=>some u
 | c+1,j,u=>if bad j then none else match gD u (pos j) m with
  | none=>none
  | some u'=>if bud j then none else row bad bud pos m c (j+1) u'
theorem rY{bad bud:Nat→Bool}{pos:Nat→Nat}{m:Nat}:∀{c j:Nat} {u v:List Bool},row bad bud pos m c j u=some v→∀i,j≤i→i<j+c→bad i=false
 | 0,j,u,v,_,i,h1,h2=>by omega
 | c+1,j,u,v,h,i,h1,h2=>by
  rw[row]at h;cases hb:bad j with
  | true=>rw[hb,if_pos rfl]at h;cases h
  | false=>
   rw[hb,if_neg (by simp)]at h;rcases Nat.eq_or_lt_of_le h1 with rfl|hlt
   ·exact hb
   ·cases hp:gD u (pos j) m with
    | none=>rw[hp]at h;cases h
    | some u'=>
     rw[hp]at h;simp only at h;split at h
     ·cases h
     ·exact rY h i (by omega) (by omega)
theorem xS{bad la oP:Nat→Bool}{pos:Nat→Nat}{m n:Nat}(hSI:∀i,i<n→bad i=false→la i=true→oP i=true)
  (hIS:∀i,i<n→bad i=false→oP i=true→la i=false→(∃i',i'<i∧la i'=true)∨∃q,i<q∧q<n∧bad q=true):∀{c j:Nat} {u:List Bool},j+c=n→(∀i,i<j→la i=false)→row bad oP pos m c j u=row bad la pos m c j u
 | 0,_,_,_,_=>rfl
 | c+1,j,u,hn,hinv=>by
  rw[row,row];cases hb:bad j with
  | true=>rfl
  | false=>
   simp only[Bool.false_eq_true,if_false];cases hp:gD u (pos j) m with
   | none=>rfl
   | some u'=>
    simp only;cases hS:la j with
    | true=>
     simp only[hSI j (by omega) hb hS,if_true]
    | false=>
     simp only[Bool.false_eq_true,if_false];cases hI:oP j with
     | false=>
      simp only[Bool.false_eq_true,if_false];exact xS hSI hIS (by omega) λi hi=>by
       rcases Nat.lt_or_ge i j with h|h
       ·exact hinv i h
       ·rw[show i=j by omega];exact hS
     | true=>
      simp only[if_true]
      symm
      rcases hIS j (by omega) hb hI hS with⟨i',h1,h2⟩|⟨q,h1,h2,h3⟩
      ·rw[hinv i' h1]at h2;cases h2
      ·cases hr:row bad la pos m c (j+1) u' with
       | none=>rfl
       | some v=>
        have:=rY hr q (by omega) (by omega);rw[h3]at this;cases this
def mI(R:Nat→List Bool→Option (List Bool)):Nat→Nat→List Bool→Bool
 | 0,_,_=>true
 | c+1,k,u=>match R k u with
  | none=>false
  | some u'=>mI R c (k+1) u'
theorem oQ{R R':Nat→List Bool→Option (List Bool)}(h:∀k u,k<5→R k u=R' k u):∀{c k:Nat} {u:List Bool},k+c=5→mI R c k u=mI R' c k u
 | 0,_,_,_=>rfl
 | c+1,k,u,hk=>by
  rw[mI,mI,h k u (by omega)];cases R' k u with
  | none=>rfl
  | some u'=>exact oQ h (by omega)
def bad(k:Nat)(l:List Int)(j:Nat):Bool:=decide (l.getD j 0<0∨16≤l.getD j 0∨l.getD j 0%(2 ^ k:Nat)≠0∨(0<j∧l.getD j 0≤l.getD (j-1) 0))
def la(k:Nat)(l:List Int)(j:Nat):Bool:=decide (k<4∧l.getD j 0%(2 ^ (k+1):Nat)=0∧(l.getD j 0+(2 ^ k:Nat))∈l)
def oP(k:Nat)(l:List Int)(j:Nat):Bool:=decide (k<4∧(((l.getD j 0).toNat ^^^ 2 ^ k:Nat):Int)∈l)
def fp(l:List Int)(j:Nat):Nat:=(l.getD j 0).toNat
def yn(free:List (List Int))(k:Nat)(u:List Bool):Option (List Bool):=row (bad k (free.getD k [])) (la k (free.getD k [])) (fp (free.getD k [])) (2 ^ k) (free.getD k []).length 0 u
def y6(free:List (List Int))(k:Nat)(u:List Bool):Option (List Bool):=row (bad k (free.getD k [])) (oP k (free.getD k [])) (fp (free.getD k [])) (2 ^ k) (free.getD k []).length 0 u
def rI(free:List (List Int)):Bool:=if free.length=5 then mI (yn free) 5 0 (replicate 16 false)else false
def w8(free:List (List Int)):Bool:=if free.length=5 then mI (y6 free) 5 0 (replicate 16 false)else false
theorem pF:∀n,n<16→∀k,k<4→n%2 ^ k=0→n ^^^ 2 ^ k=if n%2 ^ (k+1)=0 then n+2 ^ k else n-2 ^ k:=by decide
theorem wk:∀n,n<16→∀k,k<4→n%2 ^ k=0→n%2 ^ (k+1)≠0→2 ^ k≤n∧(n-2 ^ k)%2 ^ (k+1)=0:=by decide
theorem p9{l:List Int}{k i:Nat}:∀{d:Nat},(∀q,i<q→q≤i+d→bad k l q=false)→l.getD i 0≤l.getD (i+d) 0
 | 0,_=>Int.le_refl _
 | d+1,h=>by
  have h1:=p9 (l:=l) (k:=k) (i:=i) (d:=d) λq h1 h2=>h q h1 (by omega);have h2:=h (i+(d+1)) (by omega) (by omega);simp only[bad,decide_eq_false_iff_not,not_or,not_and]at h2;have h3:=h2.2.2.2 (by omega);rw[show i+(d+1)-1=i+d by omega]at h3;omega
theorem zk(free:List (List Int)):w8 free=rI free:=by
 unfold w8 rI;split
 ·refine oQ (λk u hk=>?_) (by omega);unfold y6 yn
  generalize free.getD k []=l
  refine xS (n:=l.length) (λi hi hb hs=>?_) (λi hi hb hI hS=>?_) (by omega) (by omega)
  ·simp only[bad,decide_eq_false_iff_not,not_or,not_and,Decidable.not_not]at hb;obtain⟨b1,b2,b3,_⟩:=hb;simp only[la,oP,decide_eq_true_eq]at hs ⊢;obtain⟨hk4,h2,h3⟩:=hs;refine⟨hk4,?_⟩;obtain⟨n,hn⟩:=Int.eq_ofNat_of_zero_le (by omega:0≤l.getD i 0);rw[hn]at b2 b3 h2 h3 ⊢;rw[Int.toNat_natCast,pF n (by omega) k hk4 (by omega),if_pos (by omega)];rw[Int.natCast_add];exact h3
  ·simp only[bad,decide_eq_false_iff_not,not_or,not_and,Decidable.not_not]at hb;obtain⟨b1,b2,b3,_⟩:=hb;simp only[la,oP,decide_eq_true_eq,decide_eq_false_iff_not,not_and]at hI hS;obtain⟨hk4,h2⟩:=hI;obtain⟨n,hn⟩:=Int.eq_ofNat_of_zero_le (by omega:0≤l.getD i 0);rw[hn]at b2 b3 h2 hS;rw[Int.toNat_natCast,pF n (by omega) k hk4 (by omega)]at h2
   by_cases h0:n%2 ^ (k+1)=0
   ·rw[if_pos h0,Int.natCast_add]at h2;exact absurd h2 (hS hk4 (by omega))
   ·rw[if_neg h0]at h2;obtain⟨m1,m2⟩:=wk n (by omega) k hk4 (by omega) h0;obtain⟨i',hi',he⟩:=List.mem_iff_getElem.1 h2;have hg:l.getD i' 0=((n-2 ^ k:Nat):Int):=by rw[←he];simp[hi']
    have hp:0<2 ^ k:=Nat.pow_pos (by omega);rcases Nat.lt_trichotomy i' i with hlt|rfl|hgt
    ·refine .inl ⟨i',hlt,?_⟩;simp only[la,decide_eq_true_eq];refine⟨hk4,by rw[hg];omega,?_⟩;rw[hg,←Int.natCast_add,show n-2 ^ k+2 ^ k=n by omega];have:l.getD i 0=l[i]:=by simp[hi]
     rw[show((n:Nat):Int)=l[i] by rw[←this,hn]];exact getElem_mem hi
    ·rw[hn]at hg;have:(n:Int)=((n-2 ^ k:Nat):Int):=hg;omega
    ·refine .inr ?_;apply Classical.byContradiction;intro hno;have hs:=p9 (l:=l) (k:=k) (i:=i) (d:=i'-i) λq h1 h2=>by
      cases hq:bad k l q with
      | false=>rfl
      | true=>exact absurd ⟨q,h1,by omega,hq⟩ hno
     rw[show i+(i'-i)=i' by omega,hg,hn]at hs;have:(n:Int)≤((n-2 ^ k:Nat):Int):=hs;omega
 ·rfl
theorem pG{u:List Bool}{f c:Nat}(h:u.getD f false=true)(hc:0<c):gD u f c=none:=by
 obtain⟨d,rfl⟩:∃d,c=d+1:=⟨c-1,by omega⟩
 rw[gD,if_pos h]
theorem oE{u:List Bool}{f c:Nat}(h:u.getD f false=false)(hc:0<c):gD u f c=gD (u.set f true) (f+1) (c-1):=by
 obtain⟨d,rfl⟩:∃d,c=d+1:=⟨c-1,by omega⟩
 rw[gD,if_neg (by rw[h];simp),Nat.add_sub_cancel]
section
variable{bad bud:Nat→Bool}{pos:Nat→Nat}{m c j:Nat}{u u':List Bool}
theorem vk(h:bad j=true)(hc:0<c):row bad bud pos m c j u=none:=by
 obtain⟨d,rfl⟩:∃d,c=d+1:=⟨c-1,by omega⟩
 rw[row,if_pos h]
theorem pH(h:gD u (pos j) m=none)(hc:0<c):row bad bud pos m c j u=none:=by
 obtain⟨d,rfl⟩:∃d,c=d+1:=⟨c-1,by omega⟩
 rw[row];split
 ·rfl
 ·rw[h]
theorem vg(h:gD u (pos j) m=some u')(hb:bud j=true)(hc:0<c):row bad bud pos m c j u=none:=by
 obtain⟨d,rfl⟩:∃d,c=d+1:=⟨c-1,by omega⟩
 rw[row];split
 ·rfl
 ·rw[h];try simp only[hb,if_true]
theorem sB(h0:bad j=false)(h:gD u (pos j) m=some u')(hb:bud j=false)(hc:0<c):row bad bud pos m c j u=row bad bud pos m (c-1) (j+1) u':=by
 obtain⟨d,rfl⟩:∃d,c=d+1:=⟨c-1,by omega⟩
 rw[row,if_neg (by rw[h0];simp),h];simp only[hb,Bool.false_eq_true,if_false,Nat.add_sub_cancel]
end
section
variable{R:Nat→List Bool→Option (List Bool)}{c k:Nat}{u u':List Bool}
theorem ig(h:R k u=none)(hc:0<c):mI R c k u=false:=by
 obtain⟨d,rfl⟩:∃d,c=d+1:=⟨c-1,by omega⟩
 rw[mI,h]
theorem pR(h:R k u=some u')(hc:0<c):mI R c k u=mI R (c-1) (k+1) u':=by
 obtain⟨d,rfl⟩:∃d,c=d+1:=⟨c-1,by omega⟩
 rw[mI,h,Nat.add_sub_cancel]
end
structure Bb(R:Nat→List Bool→Option (List Bool))(ok:Bool) where
 k:Nat
 le:k≤5
 u:List Bool
 ul:u.length=16
 eq:ok=mI R (5-k) k u
structure Az(l:List Int)(bud:Nat→Bool)(kk:Nat)(r:Option (List Bool)) where
 k:Nat
 le:k≤l.length
 u:List Bool
 ul:u.length=16
 eq:r=row (bad kk l) bud (fp l) (2 ^ kk) (l.length-k) k u
structure BV(r:Option (List Bool))(s e:Nat) where
 k:Nat
 le:k≤e
 ge:s≤k
 u:List Bool
 ul:u.length=16
 eq:r=gD u k (e-k)
theorem nE(n:Nat):(T.s 1 n λ_ j=>[T.v (.bool false)].getD j .j).aZ (tr (replicate n false)):=by
 refine⟨λk c=>(En.cs ((replicate n false).getD k En.ab)).getD c .j,by simp only[tr,length_replicate];rfl,λk c hk hc=>?_⟩
 match c,hc with
 | 0,_=>
  show T.aZ (.v (.bool false)) (.v (.bool ((replicate n false).getD k En.ab)));rw[show(replicate n false).getD k En.ab=false by simp[getD_eq_getElem?_getD,getElem?_replicate,hk]];exact au
 | c+1,hc=>exact absurd hc (by omega)
theorem zl{k:Nat}(h:k≤5):dV .shl (iv 1) (.int .u64 (IntKind.u64.wrap (k:Int)))=some (iv ((2 ^ k:Nat):Int)):=by
 match k,h with
 | 0,_=>rfl
 | 1,_=>rfl
 | 2,_=>rfl
 | 3,_=>rfl
 | 4,_=>rfl
 | 5,_=>rfl
 | k+6,h=>omega
theorem q9{k:Nat}(h:k≤5):dV .shl (iv 1) (iv (k:Int))=some (iv ((2 ^ k:Nat):Int)):=by
 match k,h with
 | 0,_=>rfl
 | 1,_=>rfl
 | 2,_=>rfl
 | 3,_=>rfl
 | 4,_=>rfl
 | 5,_=>rfl
 | k+6,h=>omega
theorem zQ{k:Nat}(h:k<5):0<2 ^ k∧2 ^ k≤16:=by
 match k,h with
 | 0,_=>decide
 | 1,_=>decide
 | 2,_=>decide
 | 3,_=>decide
 | 4,_=>decide
 | k+5,h=>omega
theorem sy{n k:Nat}(hn:n<16)(hk:k<5)(h:n%2 ^ k=0):n+2 ^ k≤16:=by
 have:∀n,n<16→∀k,k<5→n%2 ^ k=0→n+2 ^ k≤16:=by decide
 exact this n hn k hk h
theorem xT{k j:Nat}{l:List Int}(h:bad k l j=false):0≤l.getD j 0∧l.getD j 0<16∧l.getD j 0%(2 ^ k:Nat)=0:=by
 simp only[bad,decide_eq_false_iff_not,not_or,Decidable.not_not]at h;omega
open Go Go.RowKit
theorem y7{k j:Nat}{l:List Int}:(decide (l.getD j 0<0) || decide (l.getD j 0≥16) || (l.getD j 0).tmod ((2 ^ k:Nat):Int) != 0 || decide ((j:Int)>0)&&decide (l.getD ((j:Int)-1).toNat 0≥l.getD j 0))=bad k l j:=by
 rw[Bool.eq_iff_iff];have hj:((j:Int)-1).toNat=j-1:=by omega
 simp only[bad,hj,Bool.or_eq_true,Bool.and_eq_true,decide_eq_true_eq,bne_iff_ne,ne_eq]
 generalize l.getD j 0=x
 generalize l.getD (j-1) 0=y
 generalize ((2 ^ k:Nat):Int)=z
 rcases Int.lt_or_le x 0 with h|h
 ·simp[h]
 ·rw[Int.tmod_eq_emod_of_nonneg h];have hj2:((j:Int)>0)↔0<j:=by omega
  simp only[hj2,ge_iff_le];constructor
  ·rintro (((h1|h1)|h1)|h1)
   ·exact .inl h1
   ·exact .inr (.inl h1)
   ·exact .inr (.inr (.inl h1))
   ·exact .inr (.inr (.inr h1))
  ·rintro (h1|h1|h1|h1)
   ·exact .inl (.inl (.inl h1))
   ·exact .inl (.inl (.inr h1))
   ·exact .inl (.inr h1)
   ·exact .inr h1
theorem y9{k j:Nat}{l:List Int}(h:0≤l.getD j 0):(decide ((k:Int)<4)&&(l.getD j 0).tmod (2*((2 ^ k:Nat):Int))==0&&decide (l.getD j 0+((2 ^ k:Nat):Int)∈l))=la k l j:=by
 rw[Bool.eq_iff_iff];simp only[la,Bool.and_eq_true,decide_eq_true_eq,beq_iff_eq];rw[Int.tmod_eq_emod_of_nonneg h,show(2*((2 ^ k:Nat):Int))=((2 ^ (k+1):Nat):Int) by rw[Nat.pow_succ];omega];have hk:(k:Int)<4↔k<4:=by omega
 rw[hk,and_assoc]
open Go Go.RowKit
def n6(l:List Int):Nat→Int
 | 0=> -1
 | j+1=>l.getD j 0
theorem zg{k j:Nat}{l:List Int}:(!(frame (l.getD j 0)) || decide (l.getD j 0≤n6 l j) || (l.getD j 0).tmod ((2 ^ k:Nat):Int) != 0)=bad k l j:=by
 rw[Bool.eq_iff_iff];simp only[bad,frame,Bool.or_eq_true,Bool.not_eq_true',Bool.and_eq_false_iff,decide_eq_true_eq,decide_eq_false_iff_not,bne_iff_ne,ne_eq];have hl:0≤l.getD j 0→(l.getD j 0≤n6 l j↔(0<j∧l.getD j 0≤l.getD (j-1) 0)):=by
  intro h
  match j with
  | 0=>simp only[n6];omega
  | j+1=>simp only[n6,Nat.add_sub_cancel];omega
 revert hl
 generalize l.getD j 0=x
 generalize l.getD (j-1) 0=y
 generalize n6 l j=w
 generalize ((2 ^ k:Nat):Int)=z
 intro hl;rcases Int.lt_or_le x 0 with h|h
 ·simp[h]
  try omega
 ·rw[Int.tmod_eq_emod_of_nonneg h,hl h];constructor
  ·rintro ((h1|h1)|h1)
   ·omega
   ·exact .inr (.inr (.inr h1))
   ·exact .inr (.inr (.inl h1))
  ·rintro (h1|h1|h1|h1)
   ·omega
   ·exact .inl (.inl (.inr (by omega)))
   ·exact .inr h1
   ·exact .inl (.inr h1)
theorem zd{k j:Nat}{l:List Int}:(decide ((k:Int)<4)&&decide (((fp l j ^^^ 2 ^ k:Nat):Int)∈l))=oP k l j:=by
 have hk:(k:Int)<4↔k<4:=by omega
 unfold fp oP;rw[Bool.eq_iff_iff];simp only[Bool.and_eq_true,decide_eq_true_eq];rw[hk]
open Go Go.RowKit
def sa(S:List (List Int))(f:Int)(o:Nat):Prop:=(f-f%((2 ^ o:Nat):Int))∈S.getD o En.ab
instance(S:List (List Int))(f:Int)(o:Nat):Decidable (sa S f o):=inferInstanceAs (Decidable (_∈_))
def tw(S:List (List Int))(f:Int):Bool:=decide (∃o,o<S.length∧sa S f o)
structure mO(S:List (List Int))(f:Int) where
 k:Nat
 le:k≤S.length
 no:∀j,j<k→¬sa S f j
theorem mO.yes{S:List (List Int)}{f:Int}(i:mO S f)(hk:i.k<S.length)(h:sa S f i.k):tw S f=true:=decide_eq_true ⟨_,hk,h⟩
theorem mO.not{S:List (List Int)}{f:Int}(i:mO S f)(hk:¬i.k<S.length):tw S f=false:=decide_eq_false λ⟨o,h1,h2⟩=>i.no o (by omega) h2
theorem mO.next{S:List (List Int)}{f:Int}(i:mO S f)(h:¬sa S f i.k):∀j,j<i.k+1→¬sa S f j:=λj hj=>by
 rcases Nat.lt_or_ge j i.k with h1|h1
 ·exact i.no j h1
 ·rw[show j=i.k by omega];exact h
theorem jB{f:Int}:frame f=true↔0≤f∧f<16:=by
 simp only[frame,Bool.and_eq_true,decide_eq_true_eq];omega
theorem xU{f:Int}{k:Nat}(h:0≤f):f.tmod ((2 ^ k:Nat):Int)=f%((2 ^ k:Nat):Int)∧0≤f%((2 ^ k:Nat):Int)∧f%((2 ^ k:Nat):Int)≤f:=by
 obtain⟨n,rfl⟩:=Int.eq_ofNat_of_zero_le h;refine⟨Int.tmod_eq_emod_of_nonneg h,?_,?_⟩
 ·exact Int.emod_nonneg _ (by have:0<2 ^ k:=Nat.pow_pos (by omega);omega)
 ·have h1:((n:Int)%((2 ^ k:Nat):Int))=((n%2 ^ k:Nat):Int):=by rw[Int.natCast_emod]
  have h2:n%2 ^ k≤n:=mod_le _ _;rw[h1];exact Int.ofNat_le.2 h2
theorem vo(l:List Int)(x:Int):lf l x=decide (x∈l):=by
 rw[Bool.eq_iff_iff,si,decide_eq_true_eq]
open Go Go.RowKit Go.Proofs
theorem oL(l:List Int)(x:Int):bf Tryz.prog 143 [.h aa [], .v (iv x)] [.rt aa .ro (tr l)] (λy _=>y= .v (.bool (decide (x∈l)))):=vo l x ▸ ic l x
theorem kT(l:List Int)(x:Int):bf Tryz.prog 155 [.h aa [], .v (iv x)] [.rt aa .ro (tr l)] (λy _=>y= .v (.bool (decide (x∈l)))):=vo l x ▸ jk l x
theorem vV:∀n:Nat,n<16→∀k:Nat,k<4→bits .xor .i64 (n:Int) ((2 ^ k:Nat):Int)=(((n ^^^ (2 ^ k):Nat):Nat):Int):=by decide +kernel
theorem zB(n:Nat)(hn:n<16)(k:Nat)(hk:k<4):dV .xor (iv (n:Int)) (iv ((2 ^ k:Nat):Int))=some (iv (((n ^^^ (2 ^ k):Nat):Nat):Int)):=by
 show some (Value.int .i64 (bits .xor .i64 (n:Int) ((2 ^ k:Nat):Int)))=_;rw[vV n hn k hk]

set_option maxRecDepth 10000 in
theorem oU(k:Nat)(hk:k≤5):bf Tryz.prog 142 [.v (iv k)] [] (λy _=>y= .v (iv ((2 ^ k:Nat):Int))):=by
 refine ob Tryz.func142 Tryz.ntmps142 ?_;refine go [.R,.a,.Z,.R,.m] (k:=?_);refine qq (Qt.dw rfl rfl Tryz.underlying205) ?_;refine go [.N] (k:=?_);refine qq (Qt.binOp rfl rfl (zl hk)) ?_;refine go [.a,.Z] (k:=?_);refine aM 2 ?_;rfl
set_option maxRecDepth 10000 in
theorem sW(n k:Nat)(hn:n<16)(hk:k<4):bf Tryz.prog 156 [.v (iv n), .v (iv k)] [] (λy _=>y= .v (iv ((n ^^^ (2 ^ k):Nat):Int))):=by
 refine ob Tryz.func156 Tryz.ntmps156 ?_;refine go [.R,.a,.Z,.R,.m,.m,.N] (k:=?_);refine qq (Qt.binOp rfl rfl (q9 (by omega))) ?_;refine qq (Qt.binOp rfl rfl (zB n hn k hk)) ?_;refine go [.a,.Z] (k:=?_);refine aM 4 ?_;rfl
end Go.Proofs.YtekcnnngjoonbaaGreat.VM

