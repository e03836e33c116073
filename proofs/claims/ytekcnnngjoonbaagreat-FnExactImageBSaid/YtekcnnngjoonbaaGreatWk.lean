/- Contracts. No conditions. -/
import Derived.Test.YtekcnnngjoonbaaGreatWd
import Derived.Test.YtekcnnngjoonbaaGreatWi
import Derived.Test.YtekcnnngjoonbaaGreatWj
set_option linter.all false
set_option maxHeartbeats 8000000
set_option maxRecDepth 10000
namespace Go.Proofs.YtekcnnngjoonbaaGreat.VM
open List Nat
/-! what ShowUnix says -/
def A8:ByteArray:=⟨#[117]⟩
def gK(l:List Int):ByteArray:=dV bt En.ab l l.length
def cm(l:List Int):ByteArray:=bt l.length++dV (λn=>bt (si n)) En.ab l l.length
def gI(m:Int)(l:List Int):ByteArray:=bt l.length++dV (λn=>bt (n+m)) En.ab l l.length
def qj(l:List cU):ByteArray:=gJ l l.length
def oS(p:bu):ByteArray:=((((((((bt p.ey++bt p.bM)++bt p.State)++bt p.dX)++bt p.dh.Pc)++cm p.dh.b_)++cm p.Mem)++gI 1 p.cH)++bt p.cJ)++cm [p.Code]
def oZ(o:az):ByteArray:=(((bt o.Id++bt o.Kind)++bt o.Target)++bt o.j3)++bt o.fc
def qB(p:cK):ByteArray:=bt p.Id++cm p.Data
def qV(f:ca):ByteArray:=bt f.Name++cm f.Data
def ub(u:aX)(k:Nat):ByteArray:=(((A8++bt u.Next)++bt u.bp)++bt u.aP.length)++dV qj En.ab u.aP k
def tB(u:aX)(k:Nat):ByteArray:=(ub u u.aP.length++bt u.ag.length)++dV oS En.ab u.ag k
def tG(u:aX)(k:Nat):ByteArray:=(tB u u.ag.length++bt u.ao.length)++dV oZ En.ab u.ao k
def s3(u:aX)(k:Nat):ByteArray:=(tG u u.ao.length++bt u.ak.length)++dV qB En.ab u.ak k
def sE(u:aX)(k:Nat):ByteArray:=(s3 u u.ak.length++bt u.ay.length)++dV qV En.ab u.ay k
def yk(u:aX)(k:Nat):ByteArray:=(sE u u.ay.length++bt u.aN.length)++dV bt En.ab u.aN k
def dn(u:aX):ByteArray:=yk u u.aN.length++cm u.Out
def xA(u:aX):ByteArray:=if cy u=true then dn u else ByteArray.empty
theorem tC(u:aX)(k:Nat):ub u (k+1)=ub u k++qj (u.aP.getD k En.ab):=by simp only[ub,eh,ByteArray.append_assoc]
theorem tz(u:aX)(k:Nat):tB u (k+1)=tB u k++oS (u.ag.getD k En.ab):=by simp only[tB,eh,ByteArray.append_assoc]
theorem s6(u:aX)(k:Nat):tG u (k+1)=tG u k++oZ (u.ao.getD k En.ab):=by simp only[tG,eh,ByteArray.append_assoc]
theorem vg(u:aX)(k:Nat):s3 u (k+1)=s3 u k++qB (u.ak.getD k En.ab):=by simp only[s3,eh,ByteArray.append_assoc]
theorem uP(u:aX)(k:Nat):sE u (k+1)=sE u k++qV (u.ay.getD k En.ab):=by simp only[sE,eh,ByteArray.append_assoc]
theorem zS(u:aX)(k:Nat):yk u (k+1)=yk u k++bt (u.aN.getD k En.ab):=by simp only[yk,eh,ByteArray.append_assoc]
theorem sO(u:aX):ub u 0=((A8++bt u.Next)++bt u.bp)++bt u.aP.length:=by simp[ub,dV]
theorem tT(u:aX):tB u 0=ub u u.aP.length++bt u.ag.length:=by simp[tB,dV]
theorem t_(u:aX):tG u 0=tB u u.ag.length++bt u.ao.length:=by simp[tG,dV]
theorem uW(u:aX):s3 u 0=tG u u.ao.length++bt u.ak.length:=by simp[s3,dV]
theorem tD(u:aX):sE u 0=s3 u u.ak.length++bt u.ay.length:=by simp[sE,dV]
theorem z6(u:aX):yk u 0=sE u u.ay.length++bt u.aN.length:=by simp[yk,dV]
theorem DM(l:List Int):gI 0 l=bt l.length++dV bt En.ab l l.length:=by
 rw[gI,show(λn:Int=>bt (n+0))=bt from funext λn=>by rw[Int.add_zero]]
theorem zb(u:aX):sE u u.ay.length++gI 0 u.aN=yk u u.aN.length:=by rw[DM,yk,ByteArray.append_assoc]
theorem cl(l:List Int):(cm l).size≤7+7*l.length:=by
 have:=fm (f:=λn=>bt (si n)) (d:=En.ab) (l:=l) (m:=7) (λn=>aA _) l.length;have:=aA l.length;rw[cm,ByteArray.size_append];omega
theorem ow(m:Int)(l:List Int):(gI m l).size≤7+7*l.length:=by
 have:=fm (f:=λn=>bt (n+m)) (d:=En.ab) (l:=l) (m:=7) (λn=>aA _) l.length;have:=aA l.length;rw[gI,ByteArray.size_append];omega
/-- what is known of a process that is shown -/
structure xz(p:bu):Prop where
 lu:p.dh.b_.length=4
 jD:∀i,i<p.dh.b_.length→ -1000000≤p.dh.b_.getD i En.ab∧p.dh.b_.getD i En.ab≤1000000
 mem:p.Mem.length≤12
 mM:∀i,i<p.Mem.length→ -1000000≤p.Mem.getD i En.ab∧p.Mem.getD i En.ab≤1000000
 fds:p.cH.length=4
 yp:∀i,i<p.cH.length→ -1≤p.cH.getD i En.ab∧p.cH.getD i En.ab≤7
 code: -1000000≤p.Code∧p.Code≤1000000
structure k9(u:aX):Prop where
 Ao:u.aP.length≤4
 prog:∀i,i<u.aP.length→et (u.aP.getD i En.ab)=true
 procs:u.ag.length≤6
 Ce:∀i,i<u.ag.length→xz (u.ag.getD i En.ab)
 opens:u.ao.length≤8
 z8:u.ak.length≤3
 pipe:∀i,i<u.ak.length→(u.ak.getD i En.ab).Data.length≤4∧∀k,k<(u.ak.getD i En.ab).Data.length→ -1000000≤(u.ak.getD i En.ab).Data.getD k En.ab∧(u.ak.getD i En.ab).Data.getD k En.ab≤1000000
 files:u.ay.length≤6
 file:∀i,i<u.ay.length→(u.ay.getD i En.ab).Data.length≤8∧∀k,k<(u.ay.getD i En.ab).Data.length→ -1000000≤(u.ay.getD i En.ab).Data.getD k En.ab∧(u.ay.getD i En.ab).Data.getD k En.ab≤1000000
 ready:u.aN.length≤6
 wg:∀i,i<u.aN.length→1≤u.aN.getD i En.ab∧u.aN.getD i En.ab≤100000
 out:u.Out.length≤60
 oV:∀i,i<u.Out.length→ -1000000≤u.Out.getD i En.ab∧u.Out.getD i En.ab≤1000000
theorem sw{α:Type}{P:α→Bool}{l:List α}(d:α)(h:l.all P=true){i:Nat}(hi:i<l.length):P (l.getD i d)=true:=by
 have:=List.all_eq_true.1 h l[i] (getElem_mem hi);simpa [getD_eq_getElem?_getD,hi]using this
theorem jG{l:List Int}(h:l.all ek=true):∀i,i<l.length→ -1000000≤l.getD i En.ab∧l.getD i En.ab≤1000000:=λi hi=>by
 have:=sw En.ab h hi;simpa [ek]using this
theorem yJ{u:aX}(ho:oc u=true){p:bu}(h:cM u p=true):xz p:=by
 simp only[cM,cE,cQ,Bool.and_eq_true,decide_eq_true_eq,beq_iff_eq]at h;obtain⟨_,⟨⟨⟨⟨⟨⟨⟨⟨⟨_,_⟩,_,h1,h2⟩,h3⟩,_⟩,h4⟩,h5⟩,h6⟩,_⟩,h7⟩,_⟩:=h;refine⟨h1,jG h2,by omega,jG h5,by omega,λi hi=>?_,by simpa [ek]using h3⟩;have:=sw En.ab h7 hi;simp only[rN,Bool.or_eq_true,beq_iff_eq,decide_eq_true_eq]at this;rcases this with h|h
 ·omega
 ·have hs:=yM (d:=En.ab) h;have hl:=Bk h;have hk:=fF.1 ho _ hl;simp only[Bool.and_eq_true,b6,decide_eq_true_eq]at hk;have e:=beq_iff_eq.1 hs;have:=hk.2.1.1;unfold kr at *;omega
theorem oB{u:aX}(h:cy u=true):k9 u:=by
 simp only[cy,dR,df,Bool.and_eq_true,decide_eq_true_eq]at h;obtain⟨⟨⟨⟨⟨⟨⟨hH,g5⟩,_⟩,hP⟩,hO⟩,hI⟩,hF⟩,hR⟩:=h;obtain⟨⟨⟨⟨⟨_,_⟩,⟨⟨_,g1⟩,g2⟩⟩,g3⟩,g4⟩,g6⟩:=hH;have hI':=hI;have hF':=hF;simp only[mg,Bool.and_eq_true,decide_eq_true_eq]at hI';simp only[mD,Bool.and_eq_true,decide_eq_true_eq]at hF';have hperm:(AK u.aN).Perm u.aN:=mergeSort_perm _ _;have hsr:AK u.aN=cL u.ag:=by rw[←beq_iff_eq,tN hP];exact hR
 have hrl:u.aN.length=(cL u.ag).length:=by rw[←hsr,xl]
 have hwl:(cL u.ag).length≤u.ag.length:=by
  have:=(mz u.ag).length_le;simpa using this
 refine⟨by omega,λi hi=>sw En.ab g2 hi,by omega,λi hi=>yJ hO (jO hP hi).2,by omega,by omega,λi hi=>?_,by omega,λi hi=>?_,by omega,λi hi=>?_,by omega,jG g4⟩
 ·have:=fF.1 hI'.1 i hi;simp only[Bool.and_eq_true,aY,decide_eq_true_eq]at this;obtain⟨_,⟨⟨_,h2⟩,h3⟩,_⟩:=this;exact⟨by omega,jG h3⟩
 ·have:=fF.1 hF'.1 i hi;simp only[Bool.and_eq_true,bE,decide_eq_true_eq]at this;obtain⟨_,⟨_,h2⟩,h3⟩:=this;exact⟨by omega,jG h3⟩
 ·have hm:u.aN.getD i En.ab∈u.aN:=by
   rw[getD_eq_getElem?_getD,getElem?_eq_getElem hi];exact getElem_mem hi
  have hm2:u.aN.getD i En.ab∈cL u.ag:=by rw[←hsr];exact hperm.mem_iff.2 hm
  obtain⟨k,hk,_,he⟩:=oE.1 hm2;have:=(jO hP hk).2;simp only[cM,Bool.and_eq_true,decide_eq_true_eq]at this;omega
theorem ly{l:List cU}(h:et l=true):(qj l).size≤1127:=by
 have h1:=jT l (k:=l.length) (Nat.le_refl _);have h2:=(kM h).1;rw[qj];omega
theorem lJ{p:bu}(h:xz p):(oS p).size≤217:=by
 have h1:=aA p.ey;have h2:=aA p.bM;have h3:=aA p.State;have h4:=aA p.dX;have h5:=aA p.dh.Pc;have h6:=cl p.dh.b_;have h7:=cl p.Mem;have h8:=ow 1 p.cH;have h9:=aA p.cJ;have h10:=cl [p.Code];have h11:=h.lu;have h12:=h.mem;have h13:=h.fds;simp only[length_cons,length_nil]at h10;simp only[oS,ByteArray.size_append];omega
theorem vN(o:az):(oZ o).size≤35:=by
 have h1:=aA o.Id;have h2:=aA o.Kind;have h3:=aA o.Target;have h4:=aA o.j3;have h5:=aA o.fc;simp only[oZ,ByteArray.size_append];omega
theorem wa{p:cK}(h:p.Data.length≤4):(qB p).size≤42:=by
 have h1:=aA p.Id;have h2:=cl p.Data;simp only[qB,ByteArray.size_append];omega
theorem wv{p:ca}(h:p.Data.length≤8):(qV p).size≤70:=by
 have h1:=aA p.Name;have h2:=cl p.Data;simp only[qV,ByteArray.size_append];omega
theorem iD{u:aX}(h:k9 u){k:Nat}(hk:k≤u.aP.length):(ub u k).size≤5000:=by
 have h1:=gf (λi hi=>ly (h.prog i hi)) k hk;have h2:=aA u.Next;have h3:=aA u.bp;have h4:=aA u.aP.length;have h5:=h.Ao;have h6:A8.size=1:=rfl;simp only[ub,ByteArray.size_append];omega
theorem iu{u:aX}(h:k9 u){k:Nat}(hk:k≤u.ag.length):(tB u k).size≤7000:=by
 have h0:=iD h (Nat.le_refl _);have h1:=gf (λi hi=>lJ (h.Ce i hi)) k hk;have h2:=aA u.ag.length;have h5:=h.procs;simp only[tB,ByteArray.size_append];omega
theorem iz{u:aX}(h:k9 u){k:Nat}(hk:k≤u.ao.length):(tG u k).size≤7500:=by
 have h0:=iu h (Nat.le_refl _);have h1:=gf (f:=oZ) (d:=En.ab) (l:=u.ao) (λi hi=>vN _) k hk;have h2:=aA u.ao.length;have h5:=h.opens;simp only[tG,ByteArray.size_append];omega
theorem iy{u:aX}(h:k9 u){k:Nat}(hk:k≤u.ak.length):(s3 u k).size≤8000:=by
 have h0:=iz h (Nat.le_refl _);have h1:=gf (λi hi=>wa (h.pipe i hi).1) k hk;have h2:=aA u.ak.length;have h5:=h.z8;simp only[s3,ByteArray.size_append];omega
theorem im{u:aX}(h:k9 u){k:Nat}(hk:k≤u.ay.length):(sE u k).size≤9000:=by
 have h0:=iy h (Nat.le_refl _);have h1:=gf (λi hi=>wv (h.file i hi).1) k hk;have h2:=aA u.ay.length;have h5:=h.files;simp only[sE,ByteArray.size_append];omega
theorem jH{u:aX}(h:k9 u){k:Nat}(hk:k≤u.aN.length):(yk u k).size≤9100:=by
 have h0:=im h (Nat.le_refl _);have h1:=fm (f:=bt) (d:=En.ab) (l:=u.aN) (m:=7) aA k;have h2:=aA u.aN.length;have h5:=h.ready;simp only[yk,ByteArray.size_append];omega
open Go Go.RowKit
def yr(c:Nat):Nat:=if c%2=1 then(c / 2) ^^^ 2197175160 else c / 2
def mP(c:Nat):Nat→Nat
 | 0=>c
 | k+1=>yr (mP c k)
def rC(c:Nat)(b:UInt8):Nat:=c ^^^ b.toNat
def lk(s:ByteArray):Nat→Nat
 | 0=>4294967295
 | k+1=>mP (rC (lk s k) (wV s k)) 8
def nN(s:ByteArray):Int:=4294967295-(lk s s.size:Nat)
theorem AO{c:Nat}(h:c<4294967296):yr c<4294967296:=by
 unfold yr;split
 ·exact xor_lt_two_pow (n:=32) (by omega) (by omega)
 ·omega
theorem n_{c:Nat}(h:c<4294967296):∀k,mP c k<4294967296
 | 0=>h
 | k+1=>AO (n_ h k)
theorem rD{c:Nat}{b:UInt8}(h:c<4294967296):rC c b<4294967296:=xor_lt_two_pow (n:=32) h (by have:=b.toNat_lt;omega)
theorem oa(s:ByteArray):∀k,lk s k<4294967296
 | 0=>by show 4294967295<4294967296;omega
 | k+1=>n_ (rD (oa s k)) 8
theorem xj(s:ByteArray):0≤nN s∧nN s≤4294967295:=by
 have:=oa s s.size;unfold nN;omega
theorem Ad{c:Nat}(h:c%2=1):yr c=(c / 2) ^^^ 2197175160:=if_pos h
theorem yK{c:Nat}(h:¬c%2=1):yr c=c / 2:=if_neg h
theorem wO(a b:Nat)(ha:a<2 ^ 63)(hb:b<2 ^ 63):bits .xor .i64 (a:Int) (b:Int)=((a ^^^ b:Nat):Int):=by
 have ha':a%2 ^ IntKind.i64.bits=a:=mod_eq_of_lt (Nat.lt_of_lt_of_le ha (by decide));have hb':b%2 ^ IntKind.i64.bits=b:=mod_eq_of_lt (Nat.lt_of_lt_of_le hb (by decide));simp only[bits,BitVec.ofInt_natCast,BitVec.toNat_xor,BitVec.toNat_ofNat,ha',hb'];exact kC _ (Int.natCast_nonneg _) (by exact_mod_cast xor_lt_two_pow ha hb)
theorem y6{c:Nat}{b:UInt8}(h:c<4294967296):bR .xor (iv c) (.int .i64 (IntKind.i64.wrap (b.toNat:Int)))=some (iv (rC c b:Nat)):=by
 show some (Value.int .i64 (bits .xor .i64 (c:Int) (IntKind.i64.wrap (b.toNat:Int))))=_;have:=b.toNat_lt;rw[kC _ (by omega) (by omega),wO _ _ (by omega) (by omega)];rfl
theorem yw{c:Nat}(h:c<4294967296):bR .xor (iv ((c / 2:Nat):Int)) (iv 2197175160)=some (iv ((c / 2 ^^^ 2197175160:Nat):Int)):=by
 show some (Value.int .i64 (bits .xor .i64 ((c / 2:Nat):Int) 2197175160))=_;rw[show(2197175160:Int)=((2197175160:Nat):Int)from rfl,wO _ _ (by omega) (by decide)]
theorem Cg(k:Nat):bR .rem (iv k) (iv 2)=some (iv ((k%2:Nat):Int)):=by
 show some (Value.int .i64 ((k:Int).tmod 2))=_;have:((k:Int).tmod 2)=((k%2:Nat):Int):=by rw[Int.tmod_eq_emod_of_nonneg (by omega)];omega
 rw[this]
theorem Cz(k:Nat)(h:k<2 ^ 63):bR .quo (iv k) (iv 2)=some (iv ((k / 2:Nat):Int)):=by
 show some (Value.int .i64 (IntKind.wrap .i64 ((k:Int).tdiv 2)))=_;rw[Int.tdiv_eq_ediv_of_nonneg (by omega),show((k:Int) / 2)=((k / 2:Nat):Int) by omega,IntWalk.i64_in _ (by omega)]
theorem Ck(k:Nat)(h:k<2 ^ 63):bR .and (iv k) (iv 1)=some (iv ((k%2:Nat):Int)):=by
 rw[sM,show(1:Int)=((1:Nat):Int)from rfl,w_ k 1 h (by decide),show(1:Nat)=2 ^ 1-1 by decide,and_two_pow_sub_one_eq_mod]
theorem BN(k:Nat):bR .shr (iv k) (.int .u64 1)=some (iv ((k / 2:Nat):Int)):=by
 show some (Value.int .i64 ((k:Int).fdiv 2))=_;rw[Int.fdiv_eq_ediv_of_nonneg _ (by omega)];congr 2
/-! four bytes of a number -/
def wu(n:Nat):Nat→Nat
 | 0=>n
 | k+1=>wu n k / 256
def l7(n:Nat):Nat→ByteArray
 | 0=>ByteArray.empty
 | k+1=>⟨#[UInt8.ofNat (wu n k)]⟩++l7 n k
def CN(n:Nat):Nat→List UInt8
 | 0=>replicate 4 0
 | k+1=>(CN n k).set (3-k) (UInt8.ofNat (wu n k))
theorem yF(n:Nat):∀k,wu n k≤n
 | 0=>Nat.le_refl _
 | k+1=>by have:=yF n k;show wu n k / 256≤n;omega
theorem C2{n:Nat}(h:n<4294967296):wu n 4=0:=by
 show n / 256 / 256 / 256 / 256=0;omega
theorem mI(n:Nat):∀k,(l7 n k).size=k
 | 0=>rfl
 | k+1=>by
  rw[l7,ByteArray.size_append,mI n k];show 1+k=k+1;omega
theorem rV(n:Nat):∀k,(CN n k).length=4
 | 0=>rfl
 | k+1=>by rw[CN,length_set,rV n k]
theorem CF(n:Nat):(⟨(CN n 4).toArray⟩:ByteArray)=l7 n 4:=by
 rw[show CN n 4=[UInt8.ofNat (wu n 3),UInt8.ofNat (wu n 2),UInt8.ofNat (wu n 1),UInt8.ofNat (wu n 0)]from rfl];apply ByteArray.ext;simp[l7,ByteArray.data_append]
theorem zC(k:Nat):bR .rem (iv k) (iv 256)=some (iv ((k%256:Nat):Int)):=by
 show some (Value.int .i64 ((k:Int).tmod 256))=_;have:((k:Int).tmod 256)=((k%256:Nat):Int):=by rw[Int.tmod_eq_emod_of_nonneg (by omega)];omega
 rw[this]
theorem yz(k:Nat)(h:k<2 ^ 63):bR .quo (iv k) (iv 256)=some (iv ((k / 256:Nat):Int)):=by
 show some (Value.int .i64 (IntKind.wrap .i64 ((k:Int).tdiv 256)))=_;rw[Int.tdiv_eq_ediv_of_nonneg (by omega),show((k:Int) / 256)=((k / 256:Nat):Int) by omega,IntWalk.i64_in _ (by omega)]
theorem B8(k:Nat):bR .shr (iv k) (.int .u64 8)=some (iv ((k / 256:Nat):Int)):=by
 show some (Value.int .i64 ((k:Int).fdiv 256))=_;rw[Int.fdiv_eq_ediv_of_nonneg _ (by omega)];congr 2
theorem B7(n:Nat):Value.int .u8 (IntKind.u8.wrap ((n%256:Nat):Int))=bv (UInt8.ofNat n):=by
 rw[pz,IntKind.wrap_u8];congr 1;omega
theorem BU(n:Nat):Value.int .u8 (IntKind.u8.wrap (n:Int))=bv (UInt8.ofNat n):=by
 rw[pz,IntKind.wrap_u8]
open Go Go.RowKit Go.Proofs Go.Proofs.Tryz
theorem zG(s:ByteArray)(hs:s.size≤1000000000):a_ prog 160 [.v (.string s)] [] (λy _=>y= .v (.int .i64 (nN s))):=by
 refine ob func160 ntmps160 ?_;refine go [.R,.a,.Z,.R,.a,.Z,.R2,.a,.Z] ?_;refine AW.block ?_;refine AW.aL (λi:cV s.size=>[.sl 4 (.v (iv i.k)),.sl 3 (.v (iv (lk s i.k:Nat))),.sl 0 (.v (.string s))]) (λi=>s.size-i.k) ⟨0,zero_le _⟩ (ws) ?_;intro i;have hle:=i.le;have hcl:=oa s i.k;refine go [.R2,.m,.N,.m] ?_;refine qq (Qt.zk rfl underlying9) ?_;refine go [.b,.Z] ?_;refine cd (λc1=>?_) λc1=>?_
 ·try simp only[ah]at c1
  refine jd (AW.seq (AW.block (sr ?_)));refine go [.m,.N,.m,.m] ?_;refine qq (Qt.zR rfl rfl underlying9 (by omega) (by omega)) ?_;refine go [.N] ?_;refine qq (Qt.cO rfl rfl underlying3) ?_;refine qq (Qt.binOp rfl rfl (y6 hcl)) ?_;refine go [.a,.Z,.R,.a,.Z] ?_;refine AW.block ?_;refine AW.aL (λj:cV 8=>[.sl 5 (.v (iv j.k)),.sl 4 (.v (iv i.k)),.sl 3 (.v (iv (mP (rC (lk s i.k) (wV s i.k)) j.k:Nat))),.sl 0 (.v (.string s))]) (λj=>8-j.k) ⟨0,zero_le _⟩ (ws) ?_;intro j;have hlej:=j.le;have hjl:=n_ (rD (b:=wV s i.k) hcl) j.k;refine go [.R2,.m,.N,.b,.Z] ?_;refine cd (λc2=>?_) λc2=>?_
  ·try simp only[ah]at c2
   refine jd (AW.seq (AW.block (sr ?_)));refine go [.m] ?_;refine qq (Qt.binOp rfl rfl (Cg _)) ?_;refine go [.N,.a,.Z,.R,.m] ?_;refine qq (Qt.binOp rfl rfl (Cz _ (by omega))) ?_;refine go [.N,.a,.Z,.R,.m,.b,.Z] ?_;refine cd (λc3=>?_) λc3=>?_
   ·have k3:=c3
    try simp only[ah]at c3
    have hodd:mP (rC (lk s i.k) (wV s i.k)) j.k%2=1:=by have hk:=k3;simp at hk;omega
    refine go [.R1,.m,.N] ?_;refine qq (Qt.binOp rfl rfl (yw hjl)) ?_;refine go [.a,.Z,.R1,.m,.N,.b,.a,.Z] ?_;refine⟨⟨j.k+1,by omega⟩,ar.bb ⟨ew,rfl,(by simp only[ax,reduceIte,Nat.reduceEqDiff];congr 2;rw[mP,Ad hodd]),rfl,trivial⟩ rfl rfl,?_⟩;show 8-(j.k+1)<8-j.k;omega
   have k3:=c3
   try simp only[ah]at c3
   have hodd:¬mP (rC (lk s i.k) (wV s i.k)) j.k%2=1:=by have hk:=k3;simp at hk;omega
   refine go [.J,.R1,.m,.N,.b,.a,.Z] ?_;refine⟨⟨j.k+1,by omega⟩,ar.bb ⟨ew,rfl,(by simp only[ax,reduceIte,Nat.reduceEqDiff];congr 2;rw[mP,yK hodd]),rfl,trivial⟩ rfl rfl,?_⟩;show 8-(j.k+1)<8-j.k;omega
  try simp only[ah]at c2
  refine AW.exit ?_;dsimp only[aD,au,reduceIte];refine go [.R1,.m,.N,.b,.a,.Z] ?_;refine⟨⟨i.k+1,by omega⟩,ar.bb ⟨ew,(by simp only[ax,reduceIte,Nat.reduceEqDiff];congr 2;rw[lk,show j.k=8 by omega]),rfl,trivial⟩ rfl rfl,?_⟩;show s.size-(i.k+1)<s.size-i.k;omega
 try simp only[ah]at c1
 refine AW.exit ?_;dsimp only[aD,au,reduceIte];refine go [.R,.m,.N,.b,.a,.Z] ?_;refine aQ 2 ?_;rw[show nN s=4294967295-(lk s i.k:Nat)from by rw[show i.k=s.size by omega];rfl];rfl
theorem yL(s:ByteArray)(hs:s.size≤1000000000):a_ prog 163 [.v (.string s)] [] (λy _=>y= .v (.int .i64 (nN s))):=by
 refine ob func163 ntmps163 ?_;refine go [.R,.a,.Z,.R,.a,.Z,.R2,.m,.N] ?_;refine qq (Qt.zk rfl underlying9) ?_;refine go [.m,.Z] ?_;refine AW.block ?_;refine AW.aL (λi:cV s.size=>[.sl 8 (.v (iv i.k)),.sl 3 (.v (iv (lk s i.k:Nat))),.sl 0 (.v (.string s)),.sl 7 (.v (iv (s.size:Nat)))]) (λi=>s.size-i.k) ⟨0,zero_le _⟩ (ws) ?_;intro i;have hle:=i.le;have hcl:=oa s i.k;refine go [.R,.b,.Z] ?_;refine AW.seq ?_;refine cd (λc1=>?_) λc1=>?_
 ·try simp only[ah]at c1
  refine jd (AW.seq (AW.block (sr ?_)));refine go [.m,.N,.a,.Z,.R,.m,.m,.N,.m] ?_;refine qq (Qt.zR rfl rfl underlying9 (by omega) (by omega)) ?_;refine qq (Qt.cO rfl rfl underlying3) ?_;refine go [.N] ?_;refine qq (Qt.binOp rfl rfl (y6 hcl)) ?_;refine go [.a,.Z,.R,.m,.Z] ?_;refine AW.block ?_;refine AW.aL (λj:cV 8=>[.sl 17 (.v (iv j.k)),.sl 8 (.v (iv i.k)),.sl 3 (.v (iv (mP (rC (lk s i.k) (wV s i.k)) j.k:Nat))),.sl 0 (.v (.string s)),.sl 7 (.v (iv (s.size:Nat)))]) (λj=>8-j.k) ⟨0,zero_le _⟩ (ws) ?_;intro j;have hlej:=j.le;have hjl:=n_ (rD (b:=wV s i.k) hcl) j.k;refine go [.R,.b,.Z] ?_;refine AW.seq ?_;refine cd (λc2=>?_) λc2=>?_
  ·try simp only[ah]at c2
   refine jd (AW.seq (AW.block (sr ?_)));refine go [.m,.N] ?_;refine qq (Qt.binOp rfl rfl (Ck _ (by omega))) ?_;refine go [.b,.a,.Z,.R,.m,.N] ?_;refine qq (Qt.binOp rfl rfl (BN _)) ?_;refine go [.a,.Z,.R,.m,.Z] ?_;refine cd (λc3=>?_) λc3=>?_
   ·have k3:=c3
    try simp only[ah]at c3
    have hodd:mP (rC (lk s i.k) (wV s i.k)) j.k%2=1:=by have hk:=k3;simp at hk;omega
    refine go [.R1,.m,.N] ?_;refine qq (Qt.binOp rfl rfl (yw hjl)) ?_;refine go [.a,.Z,.R1,.b,.N,.m,.Z] ?_;refine⟨⟨j.k+1,by omega⟩,ar.bb ⟨ew,rfl,(by simp only[ax,reduceIte,Nat.reduceEqDiff];congr 2;rw[mP,Ad hodd]),rfl,rfl,trivial⟩ rfl rfl,?_⟩;show 8-(j.k+1)<8-j.k;omega
   have k3:=c3
   try simp only[ah]at c3
   have hodd:¬mP (rC (lk s i.k) (wV s i.k)) j.k%2=1:=by have hk:=k3;simp at hk;omega
   refine go [.J,.R1,.b,.m,.Z] ?_;refine⟨⟨j.k+1,by omega⟩,ar.bb ⟨ew,rfl,(by simp only[ax,reduceIte,Nat.reduceEqDiff];congr 2;rw[mP,yK hodd]),rfl,rfl,trivial⟩ rfl rfl,?_⟩;show 8-(j.k+1)<8-j.k;omega
  try simp only[ah]at c2
  refine AW.exit ?_;dsimp only[aD,au,reduceIte];refine go [.R1,.b,.N,.m,.Z] ?_;refine⟨⟨i.k+1,by omega⟩,ar.bb ⟨ew,(by simp only[ax,reduceIte,Nat.reduceEqDiff];congr 2;rw[lk,show j.k=8 by omega]),rfl,rfl,trivial⟩ rfl rfl,?_⟩;show s.size-(i.k+1)<s.size-i.k;omega
 try simp only[ah]at c1
 refine AW.exit ?_;dsimp only[aD,au,reduceIte];refine go [.R,.m,.b,.N,.a,.Z] ?_;refine aQ 2 ?_;rw[show nN s=4294967295-(lk s i.k:Nat)from by rw[show i.k=s.size by omega];rfl];rfl
end Go.Proofs.YtekcnnngjoonbaaGreat.VM

