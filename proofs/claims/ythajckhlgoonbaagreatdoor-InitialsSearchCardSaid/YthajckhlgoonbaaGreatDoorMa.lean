/-
  A part of the proof of the laws.
-/
import Derived.Test.YthajckhlgoonbaaGreatDoorS7
import Derived.Test.YthajckhlgoonbaaGreatDoorUa
import Derived.Test.YthajckhlgoonbaaGreatDoorEc
import Derived.Test.YthajckhlgoonbaaGreatDoorUd
import Derived.Test.YthajckhlgoonbaaGreatDoorEd
import Derived.Test.YthajckhlgoonbaaGreatDoorEg
import Derived.Test.YthajckhlgoonbaaGreatDoorCi
import Derived.Test.YthajckhlgoonbaaGreatDoorW1
import Derived.Test.YthajckhlgoonbaaGreatDoorPc
section
set_option maxRecDepth 100000
namespace Go.Proofs.C06
open Go Go.RowKit Go.Vc Go.Am Go.Dg
def fit(b:List UInt8)(n:Nat)(left:Bool):List UInt8:=if left=true then List.replicate (n-b.length) 32++b.drop (b.length-n)else b.take n++List.replicate (n-b.length) 32
end Go.Proofs.C06
end
section
set_option maxRecDepth 100000
namespace Go.Proofs.C06
open Go Go.RowKit Go.Vc Go.Am Go.Dg
def cutK(d:Decimal)(s:Int):Nat:=((d.Scale.toNat:Int)-s).toNat
end Go.Proofs.C06
end
section
set_option maxRecDepth 100000
namespace Go.Proofs.C06
open Go Go.RowKit Go.Vc Go.Am Go.Dg
structure MS(s:Shape)(z:Nat):Prop where
 chk:chkV s=0
 pic:s.Picture.length≤400
 siz:s.Size=(z:Int)
 c0:0≤s.Category
 c5:s.Category≤5
 u0:0≤s.Usage
 zle:z≤1048576
 zl:s.Category≠0→z≤400
theorem zmJ{s:Shape}(h:chkV s=0):YL s=0:=by
 unfold chkV at h;by_cases hE:YL s=0
 ·exact hE
 ·rw[if_pos hE]at h;exact absurd h hE
theorem zpZ{s:Shape}(h:chkV s=0)(hp:s.Picture.length≤400)(hc:0≤s.Category)(hu:0≤s.Usage):∃z,MS s z:=by
 have hE:=zmJ h;have hE':=hE;unfold YL at hE;split at hE
 ·cases hE
 ·rename_i h1;split at hE
  ·cases hE
  ·rename_i h2;split at hE
   ·cases hE
   ·rename_i h3;by_cases h0:s.Category=0
    ·refine⟨s.Size.toNat,h,hp,by omega,hc,by omega,hu,by omega,fun e=>absurd h0 e⟩
    ·have hs:=znq h h0;have hz:0≤sizeV s∧sizeV s≤400:=by
      unfold sizeV;rw[if_neg h0];split
      ·have:szN s.Picture≤s.Picture.length:=by unfold szN;omega
       omega
      ·repeat' split
       all_goals omega
     refine⟨s.Size.toNat,h,hp,by omega,hc,by omega,hu,by omega,fun _=>by omega⟩
theorem NS.nat{s:Shape}{n:Nat}(h:NS s n):s.Digits.toNat=n:=by have:=h.dig;omega
theorem zeD{s:Shape}{n:Nat}(h:NS s n){b:List UInt8}(h0:(qz s n b).2=0):VD (qz s n b).1:=by
 unfold qz at h0⊢;by_cases hr:(Jy s n b).2=0
 ·rw[if_pos hr];obtain⟨r1,r2,r3⟩:=zaZ h hr;rw[r3];obtain⟨d1,d2⟩:=zji h r1 r2;exact (zjo h d1 d2).1
 ·rw[if_neg hr]at h0;exact absurd h0 hr
theorem zdO{s:Shape}{n:Nat}(h:NS s n):szV s n≤300:=by
 have:=h.n18;unfold szV binW
 repeat' split
 all_goals omega
theorem MS.sz4{s:Shape}{z n:Nat}(h:MS s z)(hn:NS s n):z=szV s n:=by have h1:=h.siz;have h2:=hn.size;omega
def lenT(s:Shape):Nat:=s.Digits.toNat+(-s.Scale).toNat
end Go.Proofs.C06
end
section
set_option maxRecDepth 100000
namespace Go.Proofs.C06
open Go Go.RowKit Go.Vc Go.Am Go.Dg
end Go.Proofs.C06
end
section
set_option maxRecDepth 100000
namespace Go.Proofs.C06
open Go Go.RowKit Go.Vc Go.Am Go.Dg
end Go.Proofs.C06
end
section
set_option maxRecDepth 100000
namespace Go.Proofs.C06
open Go Go.RowKit Go.Vc Go.Am Go.Dg
end Go.Proofs.C06
end
section
set_option maxRecDepth 100000
namespace Go.Proofs.C06
open Go Go.RowKit Go.Vc Go.Am Go.Dg
end Go.Proofs.C06
end
section
set_option maxRecDepth 100000
namespace Go.Proofs.C06
open Go Go.RowKit Go.Vc Go.Am Go.Dg
end Go.Proofs.C06
end
section
set_option maxRecDepth 100000
namespace Go.Proofs.C06
open Go Go.RowKit Go.Vc Go.Am Go.Dg
def sp(c:UInt8):Bool:=([32]:List UInt8).contains c
end Go.Proofs.C06
end
section
set_option maxRecDepth 100000
namespace Go.Proofs.C06
open Go Go.RowKit Go.Vc Go.Am Go.Dg
end Go.Proofs.C06
end
section
set_option maxRecDepth 100000
namespace Go.Proofs.C06
open Go Go.RowKit Go.Vc Go.Am Go.Dg
end Go.Proofs.C06
end
section
set_option maxRecDepth 100000
namespace Go.Proofs.C06
open Go Go.RowKit Go.Vc Go.Am Go.Dg
end Go.Proofs.C06
end
section
set_option maxRecDepth 100000
namespace Go.Proofs.C06
open Go Go.RowKit Go.Vc Go.Am Go.Dg
theorem zop(L:List AV)(m:Nat):atV L (m:Int)=L.getD m .undef:=by unfold atV;rw[Int.toNat_natCast]
theorem zaF{L:List AV}{m:Nat}{v:AV}(h:L[m]? =some v):atV L (m:Int)=v:=by rw[zop,List.getD_eq_getElem?_getD,h];rfl
theorem KU{L:List AV}{m:Nat}{v:AV}(h:L[m]? =some v):zn (m:Int) L.length=true:=by have:=(List.getElem?_eq_some_iff.1 h).1;exact zB.2 ⟨by omega,by omega⟩
end Go.Proofs.C06
end
section
set_option maxRecDepth 100000
namespace Go.Proofs.C06
open Go Go.RowKit Go.Vc Go.Am Go.Dg
def zfX(b:List UInt8)(i:Nat):Int:=if i<b.length then byteAt b (i:Int)else 32
def zgP(x y:Int):Int:=if x<y then-1 else if y<x then 1 else 0
def zgQ(a b:List UInt8):Nat→Nat→Int
 |0,_=>0
 |k+1,i=>if zgP (zfX a i) (zfX b i)≠0 then zgP (zfX a i) (zfX b i)else zgQ a b k (i+1)
def zpE(a b:List UInt8):Int:=zgQ a b (max a.length b.length) 0
theorem zpD(x y:Int): -1≤zgP x y∧zgP x y≤1:=by unfold zgP;split<;>(try split)<;>omega
theorem zmH(a b:List UInt8):∀k i,-1≤zgQ a b k i∧zgQ a b k i≤1
 |0,_=>by unfold zgQ;omega
 |k+1,i=>by
  unfold zgQ;split
  ·exact zpD _ _
  ·exact zmH a b k (i+1)
theorem ziJ(N:Nat)(x y:Int):zaE N x y=some (zgP x y):=by
 unfold zaE zeA zgP;simp only[decide_true,Bool.not_true,zc,cond_false];rw[zb];split
 ·rfl
 ·rw[zb];split<;>rfl
theorem zb0(N:Nat)(b:List UInt8)(i:Nat):Vb N b (i:Int)=some (zfX b i):=by
 unfold Vb zfX;rw[zb];by_cases h:i<b.length
 ·rw[if_neg (by omega),if_pos h,zB.2 ⟨by omega,by omega⟩,za]
 ·rw[if_pos (by omega),if_neg h]
theorem XN{N:Nat}{a b:List UInt8}{M:Nat}(hM:M≤1000000):∀(k' k i:Nat),i+k=M→k<k'→qQ N k' a b (M:Int) (i:Int)=some (zgQ a b k i)
 |0,_,_,_,h=>by omega
 |k'+1,k,i,hi,hk=>by
  show Jr N (qQ N k') a b (M:Int) (i:Int)=_;unfold Jr;rw[zb];cases k with
  |zero=>rw[if_neg (by omega)];rfl
  |succ k=>
   rw[if_pos (by omega),zb0,zc,zb0,zc,ziJ,zc,zg];unfold zgQ;by_cases h0:zgP (zfX a i) (zfX b i)=0
   ·rw[if_pos h0,if_neg (fun e=>e h0),zt (by omega) (by omega),za,show(i:Int)+1=((i+1:Nat):Int)by omega];exact XN hM k' k (i+1) (by omega) (by omega)
   ·rw[if_neg h0,if_pos h0]
theorem zg2{N:Nat}{a b:List UInt8}(ha:a.length<N)(hb:b.length<N)(hN:N≤1000000):Vd N a b=some (zpE a b):=by
 unfold Vd zpE;have e:jq (a.length:Int) (b.length:Int)=((max a.length b.length:Nat):Int):=by unfold jq;split<;>omega
 rw[e,show(0:Int)=((0:Nat):Int)from rfl];exact XN (by omega) N _ 0 (by omega) (by omega)
def ntV(s:Shape)(b:List UInt8)(g:Bool):List UInt8×Int:=if s.Category≠4∨g=true then(b,0)else if 0<s.Scale then([],12)else if(qz s s.Digits.toNat b).2≠0 then([],(qz s s.Digits.toNat b).2)else if zbE (qz s s.Digits.toNat b).1 (lenT s) 0 then(fmt (lenT s) (quo (val (qz s s.Digits.toNat b).1.Digits) (qz s s.Digits.toNat b).1.Scale.toNat 0),0)else([],14)
theorem zf3{N:Nat}(hN:3000<N){s:Shape}{z:Nat}(h:MS s z){b:List UInt8}(hb:b.length=z)(hz:z≤400)(g:Bool):zbe N (fld s b) g=some (ntV s b g)∧(ntV s b g).1.length≤400:=by
 unfold zbe ntV;show cond (!decide (s.Category=4)) _ _=_∧_;rw[zg];by_cases h4:s.Category=4
 ·rw[if_pos h4];cases g with
  |true=>rw[cond_true,if_pos (.inr rfl)];exact⟨rfl,by rw[hb];exact hz⟩
  |false=>
   rw[cond_false,if_neg (by rintro(e|e);exact e h4;cases e)];show cond (decide (0<s.Scale)) _ _=_∧_;rw[zb];by_cases hs0:0<s.Scale
   ·rw[if_pos hs0,if_pos hs0];exact⟨rfl,Nat.zero_le _⟩
   ·rw[if_neg hs0,if_neg hs0];obtain⟨n,hn⟩:=zlP h.chk h4 h.u0;have hz3:=zdO hn;rw[←h.sz4 hn]at hz3;rw[hn.nat,zdI hN hn h.chk h.pic (by omega),zc,zg];by_cases hg:(qz s n b).2=0
    ·have hs1:=hn.sc1;have h18:=hn.n18;have h1:=hn.n1;have hdg:=hn.dig;have el:(s.Digits-s.Scale)=((lenT s:Nat):Int):=by unfold lenT;omega
     have elt:lenT s=n+(-s.Scale).toNat:=by unfold lenT;rw[hn.nat]
     rw[if_pos hg,if_neg (fun e=>e hg)];show chk (zd .i64 (s.Digits-s.Scale)) (bnd (Kz N (qz s n b).1 (s.Digits-s.Scale) 0) _)=_∧_;rw[el,zt (by omega) (by omega),za,zhL hN (zeD hn hg) (by omega) (by omega) (by decide) (by decide),zc];refine⟨rfl,?_⟩;split
     ·show(fmt _ _).length≤_;rw[yM];omega
     ·show([]:List UInt8).length≤_;decide
    ·rw[if_neg hg,if_pos hg];exact⟨rfl,Nat.zero_le _⟩
 ·rw[if_neg h4,if_pos (.inl h4)];exact⟨rfl,by rw[hb];exact hz⟩
def cmV(s:Shape)(b:List UInt8)(t:Shape)(c:List UInt8):Int×Int:=if s.Category=4∧t.Category=4 then if(qz s s.Digits.toNat b).2≠0 then(0,(qz s s.Digits.toNat b).2)else if(qz t t.Digits.toNat c).2≠0 then(0,(qz t t.Digits.toNat c).2)else(zeU (qz s s.Digits.toNat b).1 (qz t t.Digits.toNat c).1,0)else if(ntV s b (decide (t.Category=0))).2≠0 then(0,(ntV s b (decide (t.Category=0))).2)else if(ntV t c (decide (s.Category=0))).2≠0 then(0,(ntV t c (decide (s.Category=0))).2)else(zpE (ntV s b (decide (t.Category=0))).1 (ntV t c (decide (s.Category=0))).1,0)
theorem zf7{N:Nat}(hN:3000<N)(hN2:N≤1000000){s t:Shape}{z z':Nat}(h:MS s z)(h':MS t z')(hz:z≤400)(hz':z'≤400){b c:List UInt8}(hb:b.length=z)(hc:c.length=z'):
  y9 N (fld s b) (fld t c)=some (cmV s b t c):=by
 unfold y9;show bnd (WE N s) _=_;rw[Wa (by omega) h.pic,h.chk,zc,decide_eq_true rfl,Bool.not_true,cond_false];show bnd (WE N t) _=_;rw[Wa (by omega) h'.pic,h'.chk,zc,decide_eq_true rfl,Bool.not_true,cond_false];show cond (!decide ((b.length:Int)=s.Size)) _ (cond (!decide ((c.length:Int)=t.Size)) _ (cond (decide (s.Category=4)) (j8 N (decide (t.Category=4)) _ _) (j8 N false _ _)))=_;rw[decide_eq_true (by rw[h.siz,hb]),Bool.not_true,cond_false,decide_eq_true (by rw[h'.siz,hc]),Bool.not_true,cond_false,zb];have k:∀x:Bool,x=decide (s.Category=4∧t.Category=4)→j8 N x (fld s b) (fld t c)=some (cmV s b t c):=by
  intro x hx;unfold j8 cmV;by_cases h44:s.Category=4∧t.Category=4
  ·rw[hx,decide_eq_true h44,cond_true,if_pos h44];obtain⟨n,hn⟩:=zlP h.chk h44.1 h.u0;obtain⟨m,hm⟩:=zlP h'.chk h44.2 h'.u0;have hz3:=zdO hn;rw[←h.sz4 hn]at hz3;have hz4:=zdO hm;rw[←h'.sz4 hm]at hz4;rw[hn.nat,hm.nat,zdI hN hn h.chk h.pic (by omega),zc,zg];by_cases g1:(qz s n b).2=0
   ·rw[if_pos g1,if_neg (fun e=>e g1),zdI hN hm h'.chk h'.pic (by omega),zc,zg];by_cases g2:(qz t m c).2=0
    ·rw[if_pos g2,if_neg (fun e=>e g2),zgJ hN (zeD hn g1) (zeD hm g2),zc]
    ·rw[if_neg g2,if_pos g2]
   ·rw[if_neg g1,if_pos g1]
  ·rw[hx,decide_eq_false h44,cond_false,if_neg h44];obtain⟨t1,t2⟩:=zf3 hN h hb hz (decide (t.Category=0));obtain⟨t3,t4⟩:=zf3 hN h' hc hz' (decide (s.Category=0));show bnd (zbe N (fld s b) (decide (t.Category=0))) _=_;rw[t1,zc,zg];by_cases g1:(ntV s b (decide (t.Category=0))).2=0
   ·rw[if_pos g1,if_neg (fun e=>e g1)];show bnd (zbe N (fld t c) (decide (s.Category=0))) _=_;rw[t3,zc,zg];by_cases g2:(ntV t c (decide (s.Category=0))).2=0
    ·rw[if_pos g2,if_neg (fun e=>e g2),zg2 (by omega) (by omega) hN2,zc]
    ·rw[if_neg g2,if_pos g2]
   ·rw[if_neg g1,if_pos g1]
 by_cases h4:s.Category=4
 ·rw[if_pos h4];exact k _ (by rw[decide_eq_decide];exact⟨fun e=>⟨h4,e⟩,fun e=>e.2⟩)
 ·rw[if_neg h4];exact k _ (by rw[decide_eq_false (fun e=>h4 e.1)])
theorem zoI(s:Shape)(b:List UInt8)(t:Shape)(c:List UInt8): -1≤(cmV s b t c).1∧(cmV s b t c).1≤1:=by
 unfold cmV;have hD:∀x y:Decimal,-1≤zeU x y∧zeU x y≤1:=fun x y=>by
  have hv:∀a b,-1≤YX a b∧YX a b≤1:=fun a b=>by unfold YX;split<;>(try split)<;>omega
  unfold zeU;split
  ·split
   ·exact hv _ _
   ·exact hv _ _
  ·split<;>omega
 split
 ·split
  ·exact⟨by show(-1:Int)≤0;decide,by show(0:Int)≤1;decide⟩
  ·split
   ·exact⟨by show(-1:Int)≤0;decide,by show(0:Int)≤1;decide⟩
   ·exact hD _ _
 ·split
  ·exact⟨by show(-1:Int)≤0;decide,by show(0:Int)≤1;decide⟩
  ·split
   ·exact⟨by show(-1:Int)≤0;decide,by show(0:Int)≤1;decide⟩
   ·exact zmH _ _ _ _
end Go.Proofs.C06
end
section
set_option maxRecDepth 100000
namespace Go.Proofs.C06
open Go Go.RowKit Go.Vc Go.Am Go.Dg
def Qz(s:Shape)(b:List UInt8):AV:=.agg [.int .u8 s.Category,.int .u8 s.Usage,.str s.Picture,.int .i64 s.Digits,.int .i64 s.Scale,.bool s.Signed,.bool s.Leading,.bool s.Separate,.bool s.Just,.bool s.Blank,.int .i64 s.Size,.rob false b]
structure OKF(s:Shape)(b:List UInt8):Prop where
 ms:∃z,MS s z∧z≤400∧b.length=z
theorem ziH{N:Nat}(hN:3000<N)(hN2:N≤1000000){s t:Shape}{b c:List UInt8}(h:OKF s b)(h':OKF t c):y9 N (fld s b) (fld t c)=some (cmV s b t c):=by obtain⟨z,h1,h2,h3⟩:=h.ms;obtain⟨z',h4,h5,h6⟩:=h'.ms;exact zf7 hN hN2 h1 h4 h2 h5 h3 h6
def tn(down:Bool)(n:Int):Int:=cond down (-n) n
theorem Xp{n:Int}(h1: -1000000000≤n)(h2:n≤1000000000):zd .i64 n=true:=yC.2 (by unfold inK;exact⟨by show(-9223372036854775808:Int)≤_;omega,by show _≤(9223372036854775807:Int);omega⟩)
theorem zed{N:Nat}(hN:3000<N)(hN2:N≤1000000){go:List AV→Bool→Bool→Int→Option (Bool×Int)}{L:List AV}{m:Nat}{s t:Shape}{b c:List UInt8}(h1:L[m]? =some (Qz s b))(h2:L[m+1]? =some (Qz t c))(o1:OKF s b)(o2:OKF t c)(hm:m<100000)(down ok:Bool):
  yl N go L down ok ((m+1:Nat):Int)=if(cmV s b t c).2≠0 then some (false,(cmV s b t c).2)else go L down (ok&&decide (tn down (cmV s b t c).1≤0)) ((m+2:Nat):Int):=by
 have e1:=zaF h1;have e2:=zaF h2;have i1:=KU h1;have i2:=KU h2;have hlt:=(List.getElem?_eq_some_iff.1 h2).1;have d1:decide (((m+1:Nat):Int)<(L.length:Int))=true:=decide_eq_true (by omega);have d2:((m+1:Nat):Int)-1=(m:Int):=by omega
 have d3:((m+1:Nat):Int)+1=((m+2:Nat):Int):=by omega
 have k1:zd .i64 (m:Int)=true:=Xp (by omega) (by omega);have k2:zd .i64 ((m+2:Nat):Int)=true:=Xp (by omega) (by omega);have hc:=ziH hN hN2 o1 o2;obtain⟨r1,r2⟩:=zoI s b t c;generalize cmV s b t c=v at hc r1 r2⊢;have k3:zd .i64 (-v.1)=true:=Xp (by omega) (by omega);unfold yl;simp only[d2,d3,e1,e2,i1,i2,d1,k1,k2,cond_true,za];refine Eq.trans (b:=bnd (y9 N (fld s b) (fld t c)) fun rr=>cond (!decide (rr.2=0)) (some (false,rr.2)) (cond down (chk (zd .i64 (-rr.1)) (cond ok (go L down (decide ((-rr.1)≤0)) ((m+2:Nat):Int)) (go L down false ((m+2:Nat):Int)))) (cond ok (go L down (decide (rr.1≤0)) ((m+2:Nat):Int)) (go L down false ((m+2:Nat):Int))))) rfl ?_;rw[hc,zc,zg];by_cases he:v.2=0
 ·rw[if_pos he,if_neg (fun e=>e he)];cases down with
  |true=>rw[cond_true,k3,za];cases ok<;>rfl
  |false=>rw[cond_false];cases ok<;>rfl
 ·rw[if_neg he,if_pos he]
theorem zf4{N:Nat}{go:List AV→Bool→Bool→Int→Option (Bool×Int)}{L:List AV}{i:Int}(h:(L.length:Int)≤i)(down ok:Bool):yl N go L down ok i=some (ok,0):=by unfold yl;rw[decide_eq_false (by omega),cond_false]
theorem zlU{N:Nat}(hN:3000<N)(hN2:N≤1000000){s t:Shape}{b c:List UInt8}(o1:OKF s b)(o2:OKF t c)(down:Bool):zf6 N (fld s b) (fld t c) down=some (decide (tn down (cmV s b t c).1<0),(cmV s b t c).2):=by
 obtain⟨r1,r2⟩:=zoI s b t c;unfold zf6;rw[ziH hN hN2 o1 o2,zc];cases down with
 |true=>rw[cond_true,Xp (by omega) (by omega),za];rfl
 |false=>rw[cond_false];rfl
theorem zfA{N:Nat}(hN:3000<N)(hN2:N≤1000000){go:List AV→Bool→Int→Int→Field→Option (Int×Bool×Int)}{L:List AV}{lo hi:Nat}{s t:Shape}{b c:List UInt8}(h1:L[(lo+hi)/2]? =some (Qz s b))(o1:OKF s b)(o2:OKF t c)(hlt:lo<hi)(hm:hi<100000)(down:Bool):
  jO N go L down (lo:Int) (hi:Int) (fld t c)=if(cmV s b t c).2≠0 then some (0,false,(cmV s b t c).2)else if tn down (cmV s b t c).1<0 then go L down (((lo+hi)/2+1:Nat):Int) (hi:Int) (fld t c)else go L down (lo:Int) (((lo+hi)/2:Nat):Int) (fld t c):=by
 have e1:=zaF h1;have i1:=KU h1;have d1:decide ((lo:Int)<(hi:Int))=true:=decide_eq_true (by omega);have d2:(lo:Int)+(hi:Int)=((lo+hi:Nat):Int):=by omega
 have d3:((lo+hi:Nat):Int)/2=(((lo+hi)/2:Nat):Int):=by omega
 have d4:(((lo+hi)/2:Nat):Int)+1=(((lo+hi)/2+1:Nat):Int):=by omega
 have k1:zd .i64 ((lo+hi:Nat):Int)=true:=Xp (by omega) (by omega);have k2:zd .i64 (((lo+hi)/2:Nat):Int)=true:=Xp (by omega) (by omega);have k3:zd .i64 (((lo+hi)/2+1:Nat):Int)=true:=Xp (by omega) (by omega);have k4:zE ((lo+hi:Nat):Int)=true:=decide_eq_true (by omega);have hc:=zlU hN hN2 o1 o2 down;unfold jO;simp only[d2,d3,d4,e1,i1,d1,k1,k2,k3,k4,cond_true,za];refine Eq.trans (b:=bnd (zf6 N (fld s b) (fld t c) down) fun rr=>cond (!decide (rr.2=0)) (some (0,false,rr.2)) (cond rr.1 (go L down (((lo+hi)/2+1:Nat):Int) (hi:Int) (fld t c)) (go L down (lo:Int) (((lo+hi)/2:Nat):Int) (fld t c)))) rfl ?_;rw[hc,zc,zg];by_cases he:(cmV s b t c).2=0
 ·rw[if_pos he,if_neg (fun e=>e he),zb]
 ·rw[if_neg he,if_pos he]
theorem zhz{N:Nat}(hN:3000<N)(hN2:N≤1000000){go:List AV→Bool→Int→Int→Field→Option (Int×Bool×Int)}{L:List AV}{lo hi:Nat}{s t:Shape}{b c:List UInt8}(h1:L[lo]? =some (Qz s b))(o1:OKF s b)(o2:OKF t c)(hlo:hi≤lo)(down:Bool):
  jO N go L down (lo:Int) (hi:Int) (fld t c)=if(cmV s b t c).2≠0 then some (0,false,(cmV s b t c).2)else some ((lo:Int),decide ((cmV s b t c).1=0),0):=by
 have e1:=zaF h1;have i1:=KU h1;have hlt:=(List.getElem?_eq_some_iff.1 h1).1;have d1:decide ((lo:Int)<(hi:Int))=false:=decide_eq_false (by omega);have d2:decide ((lo:Int)=(L.length:Int))=false:=decide_eq_false (by omega);have hc:=ziH hN hN2 o1 o2;generalize cmV s b t c=v at hc⊢;unfold jO;simp only[e1,i1,d1,d2,cond_false];refine Eq.trans (b:=bnd (y9 N (fld s b) (fld t c)) fun rr=>cond (!decide (rr.2=0)) (some (0,false,rr.2)) (some ((lo:Int),decide (rr.1=0),0))) rfl ?_;rw[hc,zc,zg];by_cases he:v.2=0
 ·rw[if_pos he,if_neg (fun e=>e he)]
 ·rw[if_neg he,if_pos he]
end Go.Proofs.C06
end
section
set_option maxRecDepth 100000
namespace Go.Proofs.C06
open Go Go.RowKit Go.Vc Go.Am Go.Dg
def sh9(u:Int):Shape:=Shape.mk 4 u [57,57] 2 0 false false false false false 2
theorem zhy(u:Int)(h:u=0∨u=1):NS (sh9 u) 2∧chkV (sh9 u)=0:=by
 rcases h with rfl|rfl
 ·exact⟨⟨rfl,by decide,by decide,rfl,.inl rfl,by decide,by decide,by decide,by kernel_rfl⟩,by kernel_rfl⟩
 ·exact⟨⟨rfl,by decide,by decide,rfl,.inr (.inl rfl),by decide,by decide,by decide,by kernel_rfl⟩,by kernel_rfl⟩
def dg2(v:Nat):List UInt8:=[UInt8.ofNat (48+v/10),UInt8.ofNat (48+v%10)]
theorem zpz:(List.range 100).all (fun v=>decide (Digs (dg2 v))&&Nat.beq (val (dg2 v)) v)=true:=by kernel_rfl
theorem ziB{v:Nat}(h:v<100):Digs (dg2 v)∧val (dg2 v)=v:=by have:=List.all_eq_true.1 zpz v (by simpa using h);rw[Bool.and_eq_true]at this;exact⟨of_decide_eq_true this.1,Nat.eq_of_beq_eq_true this.2⟩
theorem zlN:(List.range 100).all (fun v=>let d:=JX (zJ false v 0);(!d.Neg)&&decide (d.Scale=0)&&Nat.beq (val d.Digits) v)=true:=by kernel_rfl
theorem zqb{v w:Nat}(hv:v<100)(hw:w<100):zeU (JX (zJ false v 0)) (JX (zJ false w 0))=YX v w:=by have a:=List.all_eq_true.1 zlN v (by simpa using hv);have b:=List.all_eq_true.1 zlN w (by simpa using hw);simp only[Bool.and_eq_true,Bool.not_eq_true',decide_eq_true_eq]at a b;obtain⟨⟨a1,a2⟩,a3⟩:=a;obtain⟨⟨b1,b2⟩,b3⟩:=b;have a3:=Nat.eq_of_beq_eq_true a3;have b3:=Nat.eq_of_beq_eq_true b3;unfold zeU;rw[a1,b1,if_pos rfl,if_neg (by decide)];unfold alD maxS;rw[a2,b2,a3,b3];simp
def f9(u:Int)(v:Nat):List UInt8:=wr (sh9 u) 2 false (dg2 v)
theorem zeI{u:Int}(h:u=0∨u=1){v:Nat}(hv:v<100):qz (sh9 u) 2 (f9 u v)=(JX (zJ false v 0),0):=by obtain⟨d1,d2⟩:=ziB hv;rw[f9,zn6 (zhy u h).1 d1 rfl (fun e=>by cases e)];unfold zlO;rw[d2];show(JX (zJ false (v*1) 0),(0:Int))=_;rw[Nat.mul_one]
theorem zoH{u:Int}(h:u=0∨u=1){v:Nat}(hv:v<100):OKF (sh9 u) (f9 u v):=by
 obtain⟨hn,hc⟩:=zhy u h;obtain⟨z,hm⟩:=zpZ hc (by show 2≤400;decide) (by show(0:Int)≤4;decide) (by show 0≤u;rcases h with rfl|rfl<;>decide);have hz:z=2:=by have:=hm.siz;have e:(sh9 u).Size=2:=rfl;omega
 obtain⟨d1,_⟩:=ziB hv;refine⟨z,hm,by omega,?_⟩;rw[f9,(zoy hn d1 rfl (fun e=>by cases e)).2,hm.sz4 hn]
theorem zis{u u':Int}(h:u=0∨u=1)(h':u'=0∨u'=1){v w:Nat}(hv:v<100)(hw:w<100):cmV (sh9 u) (f9 u v) (sh9 u') (f9 u' w)=(YX v w,0):=by unfold cmV;rw[if_pos ⟨rfl,rfl⟩];show(if(qz (sh9 u) 2 (f9 u v)).2≠0 then _ else if(qz (sh9 u') 2 (f9 u' w)).2≠0 then _ else _)=_;rw[zeI h hv,zeI h' hw,if_neg (fun e=>e rfl),if_neg (fun e=>e rfl)];show(zeU (qz (sh9 u) 2 (f9 u v)).1 (qz (sh9 u') 2 (f9 u' w)).1,(0:Int))=_;rw[zeI h hv,zeI h' hw,zqb hv hw]
theorem zoM:(List.range 100).all (fun v=>decide (f9 0 v=dg2 v))=true:=by kernel_rfl
theorem VS{N:Nat}(hN:3000<N){v:Nat}(hv:v<100):Qp N (v:Int)=some (fld (sh9 0) (dg2 v)):=by
 have hp:Q8 N [57,57]=some (sh9 0):=by unfold Q8;rw[zhe (by omega) (by decide),show y8 [57,57]=(sh9 0,0)by kernel_rfl,zc]
 have hall:(List.range 100).all (fun v=>(zE (v:Int)&&decide ((0:Int)<10)&&zd .i64 ((v:Int)/10))&&(zE ((v:Int)/10)&&decide ((0:Int)<10))&&zd .i64 (48+(((v:Int)/10)%10))&&zd .i64 (48+((v:Int)%10))&&
   (zd .u8 (IntKind.wrap .u8 (48+(((v:Int)/10)%10)))&&(zd .u8 (IntKind.wrap .u8 (48+((v:Int)%10)))&&true))&&decide (([(IntKind.wrap .u8 (48+(((v:Int)/10)%10))),(IntKind.wrap .u8 (48+((v:Int)%10)))].map toByte)=dg2 v))=true:=by kernel_rfl
 have h:=List.all_eq_true.1 hall v (by simpa using hv);simp only[Bool.and_eq_true,decide_eq_true_eq]at h;obtain⟨⟨⟨⟨⟨⟨⟨h1,h2⟩,h3⟩,h4,_⟩,h5⟩,h6⟩,h7,h8,_⟩,h9⟩:=h;unfold Qp;rw[hp,zc,h1,h3,h4,h5,h6,h7,h8,h9];rfl
end Go.Proofs.C06
end
section
set_option maxRecDepth 100000
namespace Go.Proofs.C06
open Go Go.RowKit Go.Vc Go.Am Go.Dg
def valN(down:Bool)(v:Nat):Nat:=cond down (99-v) v
def rel(down:Bool)(a b:Nat):Prop:=if down=true then b≤a else a≤b
abbrev S8:=(List UInt8×Int×Bool×Bool×Int×Int×Int)⊕(List UInt8×Int×Bool×Bool×Int×Int×Int×List Int)
abbrev S6:=(List UInt8×Int×Bool×Bool×Int)⊕(List UInt8×Int×Bool×Bool×Int×List Int)
def ints(S:List Nat):List Int:=S.map fun v=>((v:Nat):Int)
def st8(l:List UInt8)(nn:Int)(d p:Bool)(v val i:Int):List Nat→S8
 |[]=>.inl (l,nn,d,p,v,val,i)
 |s::r=>.inr (l,nn,d,p,v,val,i,ints (s::r))
def st6(l:List UInt8)(nn:Int)(d p:Bool)(v:Int):List Nat→S6
 |[]=>.inl (l,nn,d,p,v)
 |s::r=>.inr (l,nn,d,p,v,ints (s::r))
theorem zoE{n:Nat}(h:n≤100000):zw 8 n=true:=by unfold zw;rw[Bool.and_eq_true,Nat.ble_eq,Nat.ble_eq];exact⟨by omega,by omega⟩
theorem zqc(l:List UInt8)(i:Int):0≤byteAt l i∧byteAt l i≤255:=by unfold byteAt;have:=(l.getD i.toNat 0).toNat_lt;omega
theorem zl6{N:Nat}{go6:S6→Option Bool}{l:List UInt8}(hl:l.length≤30){nn:Int}{d p:Bool}{v val:Nat}(hv:v<100)(hval:val<100):∀(k i:Nat)(S:List Nat),l.length-i<k→i≤l.length→S.length+(l.length-i)≤5000→
  ∃c,c≤l.length-i∧zL N go6 k (st8 l nn d p (v:Int) (val:Int) (i:Int) S)=go6 (st6 l nn d p ((v+1:Nat):Int) (S++List.replicate c val))
 |0,_,_,h,_,_=>by omega
 |k+1,i,S,hk,hi,hS=>by
  have e1:(v:Int)+1=((v+1:Nat):Int):=by omega
  have e2:(i:Int)+1=((i+1:Nat):Int):=by omega
  have k1:zd .i64 ((v+1:Nat):Int)=true:=Xp (by omega) (by omega);have k2:zd .i64 ((i+1:Nat):Int)=true:=Xp (by omega) (by omega);have k3:zd .i64 (val:Int)=true:=Xp (by omega) (by omega);obtain⟨b0,b1⟩:=zqc l (i:Int);have k4:(zE (byteAt l (i:Int))&&decide ((0:Int)<100))=true:=by rw[Bool.and_eq_true];exact⟨decide_eq_true b0,by decide⟩
  have k5:zd .i64 (byteAt l (i:Int)%100)=true:=Xp (by omega) (by omega);by_cases hlt:i<l.length
  ·have d1:decide ((i:Int)<(l.length:Int))=true:=decide_eq_true (by omega);have d2:zn (i:Int) l.length=true:=zB.2 ⟨by omega,by omega⟩;have step:zL N go6 (k+1) (st8 l nn d p (v:Int) (val:Int) (i:Int) S)=if byteAt l (i:Int)%100=(val:Int)then zL N go6 k (st8 l nn d p (v:Int) (val:Int) ((i+1:Nat):Int) (S++[val]))else zL N go6 k (st8 l nn d p (v:Int) (val:Int) ((i+1:Nat):Int) S):=by
    cases S with
    |nil=>show jR N go6 (zL N go6 k) l nn d p (v:Int) (val:Int) (i:Int)=_;unfold jR;simp only[d1,d2,k2,k3,k5,e2,cond_true,za,Bool.and_true];rw[zb];rw[show zw 8 (([]:List Int)++[(val:Int)]).length=true from zoE (by show 1≤100000;decide),za];rfl
    |cons s r=>
     show jQ N go6 (zL N go6 k) l nn d p (v:Int) (val:Int) (i:Int) (ints (s::r))=_;unfold jQ;simp only[d1,d2,k2,k3,k5,e2,cond_true,za,Bool.and_true];rw[zb];have hlen:(ints (s::r)++[(val:Int)]).length=(s::r).length+1:=by unfold ints;simp
     rw[show zw 8 (ints (s::r)++[(val:Int)]).length=true from by rw[hlen];exact zoE (by omega),za];have happ:ints (s::r)++[(val:Int)]=ints ((s::r)++[val]):=by unfold ints;simp
     rw[happ];rfl
   rw[step];by_cases hb:byteAt l (i:Int)%100=(val:Int)
   ·rw[if_pos hb];obtain⟨c,c1,c2⟩:=zl6 hl hv hval k (i+1) (S++[val]) (by omega) (by omega) (by simp;omega);refine⟨c+1,by omega,?_⟩;rw[c2,List.append_assoc];rfl
   ·rw[if_neg hb];obtain⟨c,c1,c2⟩:=zl6 hl hv hval k (i+1) S (by omega) (by omega) (by omega);exact⟨c,by omega,c2⟩
  ·refine⟨0,Nat.zero_le _,?_⟩;have d1:decide ((i:Int)<(l.length:Int))=false:=decide_eq_false (by omega);rw[show S++List.replicate 0 val=S by simp];cases S with
   |nil=>show jR N go6 (zL N go6 k) l nn d p (v:Int) (val:Int) (i:Int)=_;unfold jR;simp only[d1,cond_false,e1,k1,za];rfl
   |cons s r=>show jQ N go6 (zL N go6 k) l nn d p (v:Int) (val:Int) (i:Int) (ints (s::r))=_;unfold jQ;simp only[d1,cond_false,e1,k1,za];rfl
structure SInv(d:Bool)(v:Nat)(S:List Nat):Prop where
 lt:∀e∈S,e<100
 ord:S.Pairwise (rel d)
 fit:∀e∈S,∀u,v≤u→u<100→rel d e (valN d u)
theorem zi6{d:Bool}{v:Nat}(h:v<100):valN d v<100:=by unfold valN;cases d<;>simp<;>omega
theorem zk2{d:Bool}{v u:Nat}(h:v≤u)(hu:u<100):rel d (valN d v) (valN d u):=by
 unfold rel valN;cases d with
 |true=>rw[if_pos rfl];simp only[cond_true];omega
 |false=>rw[if_neg (by decide)];exact h
theorem SInv.next{d:Bool}{v:Nat}{S:List Nat}(h:SInv d v S)(hv:v<100)(c:Nat):SInv d (v+1) (S++List.replicate c (valN d v)) where
 lt e he:=by
  rcases List.mem_append.1 he with h1|h1
  ·exact h.lt e h1
  ·rw[(List.mem_replicate.1 h1).2];exact zi6 hv
 ord:=by
  rw[List.pairwise_append];refine⟨h.ord,?_,fun a ha b hb=>?_⟩
  ·rw[List.pairwise_replicate];exact .inr (by unfold rel;cases d<;>simp)
  ·rw[(List.mem_replicate.1 hb).2];exact h.fit a ha v (Nat.le_refl _) hv
 fit e he u h1 h2:=by
  rcases List.mem_append.1 he with h3|h3
  ·exact h.fit e h3 u (by omega) h2
  ·rw[(List.mem_replicate.1 h3).2];exact zk2 (by omega) h2
theorem zoB{N:Nat}(hN:3000<N){l:List UInt8}(hl:l.length≤30){nn:Int}{d p:Bool}:∀(k v:Nat)(S:List Nat),100-v<k→v≤100→S.length≤v*30→SInv d v S→
  ∃T,zI N k (st6 l nn d p (v:Int) S)=(match T with
   |[]=>Ze N nn d p
   |s::r=>yb N nn d p (ints (s::r)))∧T.length≤3000∧(∀e∈T,e<100)∧T.Pairwise (rel d)
 |0,_,_,h,_,_,_=>by omega
 |k+1,v,S,hk,hv,hS,hI=>by
  by_cases hlt:v<100
  ·have d1:decide ((v:Int)<100)=true:=decide_eq_true (by omega);obtain⟨c,c1,c2⟩:=zl6 (N:=N) (go6:=zI N k) hl (nn:=nn) (d:=d) (p:=p) hlt (zi6 (d:=d) hlt) N 0 S (by omega) (by omega) (by omega);have step:zI N (k+1) (st6 l nn d p (v:Int) S)=zL N (zI N k) N (st8 l nn d p (v:Int) ((valN d v:Nat):Int) ((0:Nat):Int) S):=by
    have k9:zd .i64 (99-(v:Int))=true:=Xp (by omega) (by omega);cases S with
    |nil=>
     show jT N (zI N k) l nn d p (v:Int)=_;unfold jT;rw[d1,cond_true];cases d with
     |true=>rw[cond_true,k9,za,show(99:Int)-(v:Int)=((valN true v:Nat):Int)by unfold valN;simp;omega];rfl
     |false=>rfl
    |cons s r=>
     show jS N (zI N k) l nn d p (v:Int) (ints (s::r))=_;unfold jS;rw[d1,cond_true];cases d with
     |true=>rw[cond_true,k9,za,show(99:Int)-(v:Int)=((valN true v:Nat):Int)by unfold valN;simp;omega];rfl
     |false=>rfl
   rw[step,c2];exact zoB hN hl k (v+1) _ (by omega) (by omega) (by simp;omega) (hI.next hlt c)
  ·have d1:decide ((v:Int)<100)=false:=decide_eq_false (by omega);refine⟨S,?_,by omega,hI.lt,hI.ord⟩;cases S with
   |nil=>show jT N (zI N k) l nn d p (v:Int)=_;unfold jT;rw[d1,cond_false]
   |cons s r=>show jS N (zI N k) l nn d p (v:Int) (ints (s::r))=_;unfold jS;rw[d1,cond_false]
end Go.Proofs.C06
end
section
set_option maxRecDepth 100000
namespace Go.Proofs.C06
open Go Go.RowKit Go.Vc Go.Am Go.Dg
abbrev S4:=(Int×Bool×Bool×Int)⊕((Int×Bool×Bool×Int×List Int)⊕(Int×Bool×Bool×Int×List Int×List AV))
def st4(nn:Int)(d p:Bool)(i:Int)(S:List Int):List AV→S4
 |[]=>.inr (.inl (nn,d,p,i,S))
 |b::r=>.inr (.inr (nn,d,p,i,S,b::r))
def at9(S:List Nat)(i:Nat):Nat:=S.getD i 0
def BFs(S:List Nat)(B:List AV):Prop:=∀i,i<B.length→∃u:Int,(u=0∨u=1)∧B[i]? =some (Qz (sh9 u) (f9 u (at9 S i)))
theorem BFs.snoc{S:List Nat}{B:List AV}(h:BFs S B){u:Int}(hu:u=0∨u=1):BFs S (B++[Qz (sh9 u) (f9 u (at9 S B.length))]):=fun i hi=>by
 by_cases h1:i<B.length
 ·obtain⟨u',h2,h3⟩:=h i h1;exact⟨u',h2,by rw[List.getElem?_append_left h1,h3]⟩
 ·have:i=B.length:=by simp at hi;omega
  subst this;exact⟨u,hu,by simp⟩
theorem zeB{S:List Nat}{i:Nat}(h:i<S.length):atI (ints S) (i:Int)=((at9 S i:Nat):Int):=by unfold atI ints at9;rw[Int.toNat_natCast,List.getD_eq_getElem?_getD,List.getElem?_map,List.getD_eq_getElem?_getD,List.getElem?_eq_getElem h];rfl
theorem V6{S:List Nat}(hS:∀e∈S,e<100){i:Nat}(h:i<S.length):at9 S i<100:=by unfold at9;rw[List.getD_eq_getElem?_getD,List.getElem?_eq_getElem h];exact hS _ (List.getElem_mem h)
theorem qg(S:List Nat):(ints S).length=S.length:=by unfold ints;simp
theorem zgy{v:Nat}(h:v<100):f9 0 v=dg2 v:=of_decide_eq_true (List.all_eq_true.1 zoM v (by simpa using h))
theorem zij{n:Nat}(h:n≤100000):zw 80 n=true:=by unfold zw;rw[Bool.and_eq_true,Nat.ble_eq,Nat.ble_eq];exact⟨by omega,by omega⟩
theorem zn1{N:Nat}(hN:3000<N){S:List Nat}(hS:∀e∈S,e<100)(hl:S.length≤3000){nn:Int}{d p:Bool}{k:Nat}{B:List AV}(hlt:B.length<S.length):
  ∃u:Int,(u=0∨u=1)∧zo N (k+1) (st4 nn d p (B.length:Int) (ints S) B)=zo N k (st4 nn d p ((B.length+1:Nat):Int) (ints S) (B++[Qz (sh9 u) (f9 u (at9 S B.length))])):=by
 have hv:=V6 hS hlt;have hat:=zeB hlt;have d1:decide ((B.length:Int)<((ints S).length:Int))=true:=decide_eq_true (by rw[qg];omega);have d2:zn (B.length:Int) (ints S).length=true:=zB.2 ⟨by omega,by rw[qg];omega⟩;have e2:(B.length:Int)+1=((B.length+1:Nat):Int):=by omega
 have k2:zd .i64 ((B.length+1:Nat):Int)=true:=Xp (by omega) (by omega);have k4:(zE (B.length:Int)&&decide (0<2))=true:=by rw[Bool.and_eq_true];exact⟨decide_eq_true (by omega),by decide⟩
 have hz:=zgy hv;obtain⟨g1,g2⟩:=ziB hv;have hb:Qw N false (dg2 (at9 S B.length)) (Shape.mk 4 1 [57,57] 2 0 false false false false false 2)=some (f9 1 (at9 S B.length)):=by rw[show Shape.mk 4 1 [57,57] 2 0 false false false false false 2=sh9 1 from rfl,zks hN (zhy 1 (.inr rfl)).1 g1 rfl false];rfl
 generalize hq:at9 S B.length=v at hv hat hz g1 g2 hb⊢;have fin:∀t:Bool,∃u:Int,(u=0∨u=1)∧((∀(hB:B=[]),yo N (zo N k) nn d p (B.length:Int) t (ints S) (fld (sh9 0) (dg2 v))=zo N k (st4 nn d p ((B.length+1:Nat):Int) (ints S) (B++[Qz (sh9 u) (f9 u v)])))∧
   (∀b r,B=b::r→jE N (zo N k) nn d p (B.length:Int) t (ints S) B (fld (sh9 0) (dg2 v))=zo N k (st4 nn d p ((B.length+1:Nat):Int) (ints S) (B++[Qz (sh9 u) (f9 u v)])))):=by
  intro t;have gl:∀w:AV,zw 80 (B++[w]).length=true:=fun w=>by rw[List.length_append,List.length_singleton];exact zij (by omega)
  cases t with
  |true=>
   refine⟨1,.inr rfl,fun hB=>?_,fun b r hB=>?_⟩
   ·unfold yo;rw[cond_true];show bnd (Qw N false (dg2 v) (Shape.mk 4 1 [57,57] 2 0 false false false false false 2)) _=_;rw[hb,zc,e2,k2];subst hB;rw[show∀w:List AV,zw 80 (([]:List AV)++w).length=zw 80 w.length from fun _=>rfl,zij (by show 1≤100000;decide),za,za];rfl
   ·unfold jE;rw[cond_true];show bnd (Qw N false (dg2 v) (Shape.mk 4 1 [57,57] 2 0 false false false false false 2)) _=_;rw[hb,zc,e2,k2];have:=gl (Qz (sh9 1) (f9 1 v));refine Eq.trans (b:=chk (zw 80 (B++[Qz (sh9 1) (f9 1 v)]).length) (zo N k (.inr (.inr (nn,d,p,((B.length+1:Nat):Int),ints S,B++[Qz (sh9 1) (f9 1 v)]))))) rfl ?_;rw[this,za,hB];rfl
  |false=>
   refine⟨0,.inl rfl,fun hB=>?_,fun b r hB=>?_⟩
   ·unfold yo;rw[cond_false,e2,k2,hz];subst hB;rw[show∀w:List AV,zw 80 (([]:List AV)++w).length=zw 80 w.length from fun _=>rfl,zij (by show 1≤100000;decide),za,za];rfl
   ·unfold jE;rw[cond_false,e2,k2,hz];have:=gl (Qz (sh9 0) (dg2 v));refine Eq.trans (b:=chk (zw 80 (B++[Qz (sh9 0) (dg2 v)]).length) (zo N k (.inr (.inr (nn,d,p,((B.length+1:Nat):Int),ints S,B++[Qz (sh9 0) (dg2 v)]))))) rfl ?_;rw[this,za,hB];rfl
 have dig:=VS hN hv;by_cases hBB:B=[]
 ·have st:∀q:Int,st4 nn d p q (ints S) B=.inr (.inl (nn,d,p,q,ints S)):=fun q=>by rw[hBB];rfl
  rw[st];show∃u:Int,_∧qY N (zo N k) nn d p (B.length:Int) (ints S)=_;unfold qY;rw[d1,cond_true,d2,za,za,hat,dig,zc];cases p with
  |true=>obtain⟨u,h1,h2,_⟩:=fin (decide ((B.length:Int)%2=1));refine⟨u,h1,?_⟩;rw[cond_true,k4,za];exact h2 hBB
  |false=>obtain⟨u,h1,h2,_⟩:=fin false;exact⟨u,h1,by rw[cond_false];exact h2 hBB⟩
 ·obtain⟨b,r,hBc⟩:∃b r,B=b::r:=List.exists_cons_of_ne_nil hBB;have st:∀q:Int,st4 nn d p q (ints S) B=.inr (.inr (nn,d,p,q,ints S,B)):=fun q=>by rw[hBc];rfl
  rw[st];show∃u:Int,_∧jU N (zo N k) nn d p (B.length:Int) (ints S) B=_;unfold jU;rw[d1,cond_true,d2,za,za,hat,dig,zc];cases p with
  |true=>obtain⟨u,h1,_,h2⟩:=fin (decide ((B.length:Int)%2=1));refine⟨u,h1,?_⟩;rw[cond_true,k4,za];exact h2 b r hBc
  |false=>obtain⟨u,h1,_,h2⟩:=fin false;exact⟨u,h1,by rw[cond_false];exact h2 b r hBc⟩
theorem zoC{N:Nat}(hN:3000<N){S:List Nat}(hS:∀e∈S,e<100)(hl:S.length≤3000)(h0:0<S.length){nn:Int}{d p:Bool}:∀(k:Nat)(B:List AV),S.length-B.length<k→B.length≤S.length→BFs S B→
  ∃B':List AV,zo N k (st4 nn d p (B.length:Int) (ints S) B)=ya N nn d (ints S) B'∧B'.length=S.length∧BFs S B'
 |0,_,h,_,_=>by omega
 |k+1,B,hk,hB,hF=>by
  by_cases hlt:B.length<S.length
  ·obtain⟨u,h1,h2⟩:=zn1 hN hS hl (nn:=nn) (d:=d) (p:=p) (k:=k) hlt;have hF':=hF.snoc h1;rw[h2];have hl':(B++[Qz (sh9 u) (f9 u (at9 S B.length))]).length=B.length+1:=by simp
   rw[←hl'];exact zoC hN hS hl h0 k _ (by rw[hl'];omega) (by rw[hl'];omega) hF'
  ·refine⟨B,?_,by omega,hF⟩;obtain⟨b,r,hBc⟩:∃b r,B=b::r:=List.exists_cons_of_ne_nil (fun e=>by rw[e]at hlt;exact hlt h0);have st:∀q:Int,st4 nn d p q (ints S) B=.inr (.inr (nn,d,p,q,ints S,B)):=fun q=>by rw[hBc];rfl
   rw[st];show jU N (zo N k) nn d p (B.length:Int) (ints S) B=_;unfold jU;rw[decide_eq_false (by rw[qg];omega),cond_false]
def qc(d:Bool)(a x:Nat):Prop:=if d=true then x<a else a<x
instance(d:Bool)(a x:Nat):Decidable (qc d a x):=by unfold qc;exact inferInstance
theorem zjr{d:Bool}{a x:Nat}:tn d (YX a x)<0↔qc d a x:=by
 cases d with
 |true=>
  have e:qc true a x↔x<a:=by unfold qc;rw[if_pos rfl]
  rw[e];show-(YX a x)<0↔x<a;unfold YX;split
  ·omega
  ·split<;>omega
 |false=>
  have e:qc false a x↔a<x:=by unfold qc;rw[if_neg (by decide)]
  rw[e];show YX a x<0↔a<x;unfold YX;split
  ·omega
  ·split<;>omega
theorem exA(d:Bool)(x:Nat):∀(S:List Nat),S.Pairwise (rel d)→∃A,A≤S.length∧(∀j,j<A→qc d (at9 S j) x)∧∀j,A≤j→j<S.length→¬qc d (at9 S j) x
 |[],_=>⟨0,Nat.le_refl _,fun j h=>by omega,fun j _ h=>by simp at h⟩
 |s::r,h=>by
  have hp:=List.pairwise_cons.1 h;by_cases hs:qc d s x
  ·obtain⟨A,h1,h2,h3⟩:=exA d x r hp.2;refine⟨A+1,by simpa using h1,fun j hj=>?_,fun j h4 h5=>?_⟩
   ·cases j with
    |zero=>exact hs
    |succ j=>exact h2 j (by omega)
   ·cases j with
    |zero=>omega
    |succ j=>exact h3 j (by omega) (by simpa using h5)
  ·refine⟨0,Nat.zero_le _,fun j h=>by omega,fun j _ h5=>?_⟩;cases j with
   |zero=>exact hs
   |succ j=>
    intro hl;apply hs;have hj:j<r.length:=by simpa using h5
    have hr:=hp.1 r[j] (List.getElem_mem hj);have e:at9 (s::r) (j+1)=r[j]:=by unfold at9;rw[List.getD_cons_succ,List.getD_eq_getElem?_getD,List.getElem?_eq_getElem hj];rfl
    rw[e]at hl;unfold rel at hr;unfold qc at hl⊢;cases d with
    |true=>rw[if_pos rfl]at hr hl⊢;omega
    |false=>rw[if_neg (by decide)]at hr hl⊢;omega
section
variable {N : Nat} {S : List Nat} {B : List AV} {d : Bool} {x A : Nat}
theorem BFs.at_(hF:BFs S B)(hlen:B.length=S.length)(hS:∀e∈S,e<100){i:Nat}(hi:i<S.length):∃u:Int,(u=0∨u=1)∧B[i]? =some (Qz (sh9 u) (f9 u (at9 S i)))∧OKF (sh9 u) (f9 u (at9 S i)):=by obtain⟨u,h1,h2⟩:=hF i (by omega);exact⟨u,h1,h2,zoH h1 (V6 hS hi)⟩
theorem zdW(hN:3000<N)(hN2:N≤1000000)(hF:BFs S B)(hlen:B.length=S.length)(hS:∀e∈S,e<100)(hl:S.length≤3000)(hx:x<100)(hA:A≤S.length)(h1:∀j,j<A→qc d (at9 S j) x)(h2:∀j,A≤j→j<S.length→¬qc d (at9 S j) x):
  ∀(k lo hi:Nat),hi-lo<k→lo≤A→A≤hi→hi≤S.length→ZF N k B d (lo:Int) (hi:Int) (fld (sh9 0) (f9 0 x))=some ((A:Int),decide (A<S.length∧at9 S A=x),0)
 |0,_,_,h,_,_,_=>by omega
 |k+1,lo,hi,hk,hlo,hhi,hle=>by
  show jO N (ZF N k) B d (lo:Int) (hi:Int) (fld (sh9 0) (f9 0 x))=_;have ox:=zoH (u:=0) (.inl rfl) hx;by_cases hlt:lo<hi
  ·obtain⟨u,hu,g1,g2⟩:=hF.at_ hlen hS (show(lo+hi)/2<S.length by omega);rw[zfA hN hN2 g1 g2 ox hlt (by omega),zis hu (.inl rfl) (V6 hS (by omega)) hx,if_neg (fun e=>e rfl)];by_cases hm:qc d (at9 S ((lo+hi)/2)) x
   ·rw[if_pos (zjr.2 hm)];refine zdW hN hN2 hF hlen hS hl hx hA h1 h2 k _ _ (by omega) ?_ hhi hle;rcases Nat.lt_or_ge ((lo+hi)/2) A with h|h
    ·exact h
    ·exact absurd hm (h2 _ h (by omega))
   ·rw[if_neg (fun e=>hm (zjr.1 e))];refine zdW hN hN2 hF hlen hS hl hx hA h1 h2 k _ _ (by omega) hlo ?_ (by omega);rcases Nat.lt_or_ge ((lo+hi)/2) A with h|h
    ·exact absurd (h1 _ h) hm
    ·exact h
  ·have e1:lo=A:=by omega
   subst e1;by_cases hll:lo<S.length
   ·obtain⟨u,hu,g1,g2⟩:=hF.at_ hlen hS hll;rw[zhz hN hN2 g1 g2 ox (by omega),zis hu (.inl rfl) (V6 hS hll) hx,if_neg (fun e=>e rfl)];have:decide (YX (at9 S lo) x=0)=decide (lo<S.length∧at9 S lo=x):=by
     rw[decide_eq_decide];unfold YX;constructor
     ·intro h;refine⟨hll,?_⟩;split at h
      ·omega
      ·split at h<;>omega
     ·rintro⟨_,h⟩;rw[if_neg (by omega),if_neg (by omega)]
    rw[this]
   ·unfold jO;rw[decide_eq_false (by omega),cond_false,decide_eq_true (by rw[hlen];omega),cond_true,decide_eq_false (fun e=>hll e.1)]
theorem zje(hN:3000<N)(hN2:N≤1000000)(hF:BFs S B)(hlen:B.length=S.length)(hS:∀e∈S,e<100)(hl:S.length≤3000)(ho:S.Pairwise (rel d)):∀(k m:Nat),S.length-m<k→ZE N k B d true ((m+1:Nat):Int)=some (true,0)
 |0,_,h=>by omega
 |k+1,m,hk=>by
  show yl N (ZE N k) B d true ((m+1:Nat):Int)=_;by_cases hlt:m+1<S.length
  ·obtain⟨u,hu,g1,g2⟩:=hF.at_ hlen hS (show m<S.length by omega);obtain⟨u',hu',g3,g4⟩:=hF.at_ hlen hS hlt;rw[zed hN hN2 g1 g3 g2 g4 (by omega),zis hu hu' (V6 hS (by omega)) (V6 hS hlt),if_neg (fun e=>e rfl)];have hr:rel d (at9 S m) (at9 S (m+1)):=by have:=List.pairwise_iff_getElem.1 ho m (m+1) (by omega) hlt (by omega);unfold at9;rw[List.getD_eq_getElem?_getD,List.getElem?_eq_getElem (show m<S.length by omega),List.getD_eq_getElem?_getD,List.getElem?_eq_getElem hlt];exact this
   have ht:tn d (YX (at9 S m) (at9 S (m+1)))≤0:=by
    unfold rel at hr;unfold tn YX;cases d with
    |true=>rw[if_pos rfl]at hr;rw[cond_true];split<;>(try split)<;>omega
    |false=>rw[if_neg (by decide)]at hr;rw[cond_false];split<;>(try split)<;>omega
   rw[decide_eq_true ht];exact zje hN hN2 hF hlen hS hl ho k (m+1) (by omega)
  ·exact zf4 (by rw[hlen];omega) _ _
theorem zoD(hlen:B.length=S.length)(hl:S.length≤3000)(hA:A≤S.length)(h1:∀j,j<A→qc d (at9 S j) x)(h2:∀j,A≤j→j<S.length→¬qc d (at9 S j) x):
  ∀(k i:Nat),A-i<k→i≤A→jm N k (.inr (.inr (d,(x:Int),(i:Int),ints S,B)))=zY N d (x:Int) (A:Int) (ints S) B
 |0,_,h,_=>by omega
 |k+1,i,hk,hi=>by
  show qZ N (jm N k) d (x:Int) (i:Int) (ints S) B=_;unfold qZ;by_cases hlt:i<S.length
  ·have d1:decide ((i:Int)<((ints S).length:Int))=true:=decide_eq_true (by rw[qg];omega);have d2:zn (i:Int) (ints S).length=true:=zB.2 ⟨by omega,by rw[qg];omega⟩;have k2:zd .i64 ((i:Int)+1)=true:=Xp (by omega) (by omega);rw[d1,cond_true,zeB hlt,d2];simp only[za,k2];by_cases hless:qc d (at9 S i) x
   ·have hiA:i<A:=by
     rcases Nat.lt_or_ge i A with h|h
     ·exact h
     ·exact absurd hless (h2 i h hlt)
    have ih:=zoD hlen hl hA h1 h2 k (i+1) (by omega) hiA;have e:(i:Int)+1=((i+1:Nat):Int):=by omega
    unfold qc at hless;cases d with
    |true=>rw[if_pos rfl]at hless;rw[Bool.not_true,cond_false,cond_true,decide_eq_true (by omega),cond_true,e];exact ih
    |false=>rw[if_neg (by decide)]at hless;rw[Bool.not_false,cond_true,decide_eq_true (by omega),cond_true,e];exact ih
   ·have hiA:i=A:=by
     rcases Nat.lt_or_ge i A with h|h
     ·exact absurd (h1 i h) hless
     ·omega
    subst hiA;unfold qc at hless;cases d with
    |true=>rw[if_pos rfl]at hless;rw[Bool.not_true,cond_false,cond_true,decide_eq_false (by omega),cond_false]
    |false=>rw[if_neg (by decide)]at hless;rw[Bool.not_false,cond_true,decide_eq_false (by omega),cond_false,cond_false]
  ·have:i=A:=by omega
   subst this;rw[decide_eq_false (by rw[qg];omega),cond_false]
end
theorem zgn{N:Nat}(hN:3000<N)(hN2:N≤1000000){S:List Nat}(hS:∀e∈S,e<100)(hl:S.length≤3000)(h0:0<S.length){nn:Int}(hn0:0≤nn)(_hn1:nn≤255){d p:Bool}(ho:S.Pairwise (rel d)):yb N nn d p (ints S)=some true:=by
 obtain⟨B,b1,hlen,hF⟩:=zoC hN hS hl h0 (nn:=nn) (d:=d) (p:=p) N [] (by show S.length-0<N;omega) (Nat.zero_le _) (fun i hi=>by simp at hi);have e:yb N nn d p (ints S)=ya N nn d (ints S) B:=b1;rw[e];obtain⟨x,hx⟩:=zlT (k:=100) hn0 (by decide);have hx100:x<100:=by omega
 obtain⟨A,hA,h1,h2⟩:=exA d x S ho;have k2:zY N d (x:Int) (A:Int) (ints S) B=some true:=by
  have hs:=zdW hN hN2 hF hlen hS hl hx100 hA h1 h2 N 0 S.length (by omega) (Nat.zero_le _) hA (Nat.le_refl _);have hs':Yg N B (fld (sh9 0) (dg2 x)) d=some ((A:Int),decide (A<S.length∧at9 S A=x),0):=by unfold Yg;rw[hlen,←zgy hx100];exact hs
  have ht:Q2 N B d=some (true,0):=zje hN hN2 hF hlen hS hl ho N 0 (by omega);unfold zY;rw[VS hN hx100,zc,hs',zc,ht,zc];dsimp only;rw[decide_eq_true rfl,cond_true,cond_true,cond_true,decide_eq_true rfl,cond_true,zb];by_cases hlt:A<S.length
  ·rw[if_pos (by rw[qg];omega),zB.2 ⟨by omega,by rw[qg];omega⟩,za,za,zeB hlt,zb,if_pos];rw[decide_eq_decide];constructor
   ·rintro⟨_,h⟩;omega
   ·intro h;exact⟨hlt,by omega⟩
  ·rw[if_neg (by rw[qg];omega),show decide (A<S.length∧at9 S A=x)=false from decide_eq_false (fun e=>hlt e.1)];rfl
 unfold ya;rw[show(zE nn&&decide (0<100))=true by rw[Bool.and_eq_true];exact⟨decide_eq_true hn0,by decide⟩,za,hx,Xp (by omega) (by omega),za];exact (zoD hlen hl hA h1 h2 N 0 (by omega) (Nat.zero_le _)).trans k2
theorem zku{N:Nat}(hN:3000<N){nn:Int}(hn0:0≤nn){d p:Bool}:Ze N nn d p=some true:=by
 obtain⟨x,hx⟩:=zlT (k:=100) hn0 (by decide);have hx100:x<100:=by omega
 have dig:=VS hN hx100;obtain⟨n,rfl⟩:∃n,N=n+1:=⟨N-1,by omega⟩
 have hs:Q2 (n+1) [] d=some (true,0):=rfl;have hq:Yg (n+1) [] (fld (sh9 0) (dg2 x)) d=some (0,false,0):=rfl;have k2:qd (n+1) d (x:Int) 0=some true:=by unfold qd;rw[dig,zc,hq,zc,hs,zc];rfl
 show Zd (n+1) nn d=some true;unfold Zd;rw[show(zE nn&&decide (0<100))=true by rw[Bool.and_eq_true];exact⟨decide_eq_true hn0,by decide⟩,za,hx,Xp (by omega) (by omega),za];exact k2
theorem zbk(l:List UInt8)(nn:Int)(z:Arr67)(hn0:0≤nn)(hn1:nn≤255):∃N,yp N l nn z=some true:=by
 refine⟨4000,?_⟩;have hN:3000<4000:=by decide
 have hN2:4000≤1000000:=by decide
 generalize (4000:Nat)=N at hN hN2⊢;unfold yp;rw[zb];by_cases h30:30<(l.length:Int)
 ·rw[if_pos h30]
 ·rw[if_neg h30];obtain⟨T,t1,t2,t3,t4⟩:=zoB hN (l:=l) (by omega) (nn:=nn) (d:=z.c0) (p:=z.c1) N 0 [] (by omega) (by omega) (Nat.zero_le _) ⟨(fun e he=>by cases he),List.Pairwise.nil,(fun e he=>by cases he)⟩;refine Eq.trans t1 ?_;cases T with
  |nil=>exact zku hN hn0
  |cons s r=>exact zgn hN hN2 t3 t2 (Nat.succ_pos _) hn0 hn1 t4
end Go.Proofs.C06
end
