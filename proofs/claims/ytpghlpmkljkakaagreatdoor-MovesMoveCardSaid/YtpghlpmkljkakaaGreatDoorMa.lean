/-
  A part of the proof of the laws on moves.
-/
import Derived.Test.YtpghlpmkljkakaaGreatDoorS7
import Derived.Test.YtpghlpmkljkakaaGreatDoorUa
import Derived.Test.YtpghlpmkljkakaaGreatDoorEc
import Derived.Test.YtpghlpmkljkakaaGreatDoorUg
import Derived.Test.YtpghlpmkljkakaaGreatDoorEd
import Derived.Test.YtpghlpmkljkakaaGreatDoorEg
import Derived.Test.YtpghlpmkljkakaaGreatDoorUi
section
set_option maxRecDepth 100000
namespace Go.Proofs.C06
open Go Go.RowKit Go.Vc Go.Am Go.Dg
def fit(b:List UInt8)(n:Nat)(left:Bool):List UInt8:=if left=true then List.replicate (n-b.length) 32++b.drop (b.length-n)else b.take n++List.replicate (n-b.length) 32
theorem zdy(b:List UInt8)(n:Nat)(left:Bool):(fit b n left).length=n:=by
 unfold fit;split
 ·rw[List.length_append,List.length_replicate,List.length_drop];omega
 ·rw[List.length_append,List.length_replicate,List.length_take];omega
theorem zu2(c:UInt8){m:Nat}(hm:m≤100000000):jJ [c] (m:Int)=some (List.replicate m c):=by
 have e:∀k:Nat,Lib.repeatL [c] k=List.replicate k c:=fun k=>by
  induction k with
  |zero=>rfl
  |succ k ih=>rw[Lib.repeatL,ih,List.replicate_succ];rfl
 unfold jJ;simp only[Int.toNat_natCast,List.length_cons,List.length_nil];rw[decide_eq_true (show(0:Int)≤(m:Int)by omega),decide_eq_true (show(m:Int)≤9223372036854775807 by omega),decide_eq_true (by omega),e];rfl
theorem zq3{n:Nat}(h:n≤100000000):(XO 1 (n:Int)&&decide ((n:Int)=(n:Int)))=true:=by show((Nat.ble (1*n) 281474976710656&&Nat.ble n 9223372036854775807)&&decide ((n:Int)=(n:Int)))=true;rw[decide_eq_true rfl,Bool.and_true,Bool.and_eq_true,Nat.ble_eq,Nat.ble_eq];omega
theorem zo5{l s:List UInt8}(h:s.length=l.length):yG l s 0 l.length=s:=by unfold yG;rw[List.take_zero,List.nil_append,←h,List.take_length,Nat.min_self,Nat.zero_add,h,List.drop_length,List.append_nil]
theorem zr7(N:Nat){n:Nat}(h:n≤1048576):zox N (n:Int)=some 0:=by unfold zox;rw[zb,if_neg (by omega),zb,if_neg (by omega)]
theorem zoy(N:Nat){b:List UInt8}(hb:b.length≤100000000){n:Nat}(hn:n≤1048576)(left:Bool):zpU N b (n:Int) left=some (fit b n left,0):=by
 have hrep:yG (List.replicate n (0:UInt8)) (List.replicate n 32) 0 (List.replicate n (0:UInt8)).length=List.replicate n 32:=zo5 (by simp);unfold zpU;rw[zr7 N hn,zc,decide_eq_true rfl,Bool.not_true,cond_false,zq3 (by omega),za,zu2 32 (by omega),zc,Int.toNat_natCast,hrep];cases left with
 |false=>rw[cond_false];unfold yG fit;rw[if_neg (by decide),List.take_zero,List.nil_append,List.length_replicate,Nat.zero_add,List.drop_replicate];congr 3;rw[show n-min b.length n=n-b.length by omega]
 |true=>
  have e1:jd 0 ((n:Int)-(b.length:Int))=((n-b.length:Nat):Int):=by unfold jd;split<;>omega
  have e2:jd 0 ((b.length:Int)-(n:Int))=((b.length-n:Nat):Int):=by unfold jd;split<;>omega
  rw[cond_true,zg (by omega) (by omega),za,e1,List.length_replicate,zE.2 ⟨by omega,by omega,Int.le_refl _⟩,za,zg (by omega) (by omega),za,e2,zE.2 ⟨by omega,by omega,Int.le_refl _⟩,za];have e3:Vc.sub b ((b.length-n:Nat):Int) (b.length:Int)=b.drop (b.length-n):=by unfold Vc.sub;rw[Int.toNat_natCast,Int.toNat_natCast,List.take_length]
  have e4:((n:Int)-((n-b.length:Nat):Int)).toNat=n-(n-b.length):=by omega
  rw[e3,e4,Int.toNat_natCast];unfold yG fit;rw[if_pos rfl,List.take_replicate,Nat.min_eq_left (by omega),List.length_drop,List.drop_replicate,show n-(n-b.length+min (b.length-(b.length-n)) (n-(n-b.length)))=0 by omega,List.take_of_length_le (by rw[List.length_drop];omega)];congr 2;exact List.append_nil _
theorem zoz{N:Nat}(s:List UInt8)(hs:s.length≤1000000):∀(k i:Nat),i≤s.length→s.length-i<k→qC N k s (s.length:Int) (i:Int)=some (decide (Digs (s.drop i)))
 |0,i,_,hk=>by omega
 |k+1,i,hi,hk=>by
  show JG N (qC N k) s _ _=_;unfold JG;by_cases h:i<s.length
  ·have hd:s.drop i=s.getD i 0::s.drop (i+1):=by rw[List.getD_eq_getElem?_getD,List.getElem?_eq_getElem h];exact List.drop_eq_getElem_cons h
   rw[decide_eq_true (by omega),cond_true,zm.2 ⟨by omega,by omega⟩,za];have hb:byteAt s (i:Int)=((s.getD i 0).toNat:Int):=rfl;rw[hb];have hdg:zi7 N ((s.getD i 0).toNat:Int)=some (decide (48≤(s.getD i 0).toNat∧(s.getD i 0).toNat≤57)):=by
    unfold zi7;rw[zb];by_cases h1:48≤(s.getD i 0).toNat
    ·rw[if_pos (by omega)];congr 1;exact decide_eq_decide.2 ⟨fun h=>⟨h1,by omega⟩,fun h=>by omega⟩
    ·rw[if_neg (by omega),decide_eq_false (fun h=>h1 h.1)]
   rw[hdg,zc,hd];by_cases h1:48≤(s.getD i 0).toNat∧(s.getD i 0).toNat≤57
   ·rw[decide_eq_true h1,Bool.not_true,cond_false,zg (by omega) (by omega),za,show(i:Int)+1=((i+1:Nat):Int)by omega,zoz s hs k (i+1) (by omega) (by omega)];congr 1;exact decide_eq_decide.2 ⟨fun h c hc=>by rcases List.mem_cons.1 hc with rfl|hc;exact h1;exact h c hc,fun h c hc=>h c (List.mem_cons_of_mem _ hc)⟩
   ·rw[decide_eq_false h1,Bool.not_false,cond_true,decide_eq_false (fun h=>h1 (h _ List.mem_cons_self))]
  ·have:s.length=i:=by omega
   subst this;rw[decide_eq_false (by omega),cond_false,List.drop_length,decide_eq_true (show Digs []from Digs.nil)]
theorem zi5{N:Nat}{s:List UInt8}(hs:s.length<N)(hs2:s.length≤1000000):Vj N s=some (decide (s≠[]∧Digs s)):=by
 unfold Vj;rw[zf];by_cases h:s=[]
 ·rw[if_pos h,decide_eq_false (fun e=>e.1 h)]
 ·rw[if_neg h];unfold zcf;have:=zoz (N:=N) s hs2 N 0 (Nat.zero_le _) (by omega);rw[show((0:Nat):Int)=0 from rfl]at this;rw[this,zc,List.drop_zero];congr 1;exact decide_eq_decide.2 ⟨fun e=>⟨h,e⟩,fun e=>e.2⟩
end Go.Proofs.C06
end
section
set_option maxRecDepth 100000
namespace Go.Proofs.C06
open Go Go.RowKit Go.Vc Go.Am Go.Dg
def cutK(d:Decimal)(s:Int):Nat:=((d.Scale.toNat:Int)-s).toNat
def Q5(d:Decimal)(s:Int):Decimal:=gD d.Neg (val d.Digits/10^cutK d s*10^cutK d s) d.Scale.toNat
theorem zrO{N:Nat}(hN:3000<N){d:Decimal}(hd:VD d){s:Int}(h1: -62≤s)(h2:s≤62):∃t,zi2 N d s=some (Q5 d s,t,0):=by
 obtain⟨x,e,e1,e2,e3⟩:=zi1 hN hd (s:=s) (by omega) (by omega);have hf:=hd.form;obtain⟨g1,g2,g3,g4,g5,_⟩:=hd;refine⟨decide (val d.Digits%10^(d.Scale-s).toNat=0),?_⟩;rw[e1];by_cases h:d.Scale≤s
 ·obtain⟨rfl,rfl⟩:=e2 h;unfold Q5 gD;rw[show cutK x s=0 by unfold cutK;omega,Nat.pow_zero,Nat.div_one,Nat.mul_one,hf]
 ·obtain⟨m,hm,hx⟩:=e3 (by omega);have ek:(d.Scale-s).toNat=cutK d s:=by unfold cutK;omega
  rw[ek]at hm;have hv:val (d.Digits.take (d.Digits.length-m)++List.replicate m 48)=val d.Digits/10^cutK d s*10^cutK d s:=by
   rw[yv,(jl g2 (by omega)).1];rcases Nat.lt_or_ge d.Digits.length (cutK d s)with hlt|hge
   ·have hm':m=d.Digits.length:=by omega
    rw[hm',Nat.div_eq_of_lt (js g2),Nat.div_eq_of_lt (zgV (Nat.le_refl _) g2 (by omega)),Nat.zero_mul,Nat.zero_mul]
   ·have hm':m=cutK d s:=by omega
    rw[hm']
  have e0:(-d.Scale).toNat=0:=by omega
  have hn:nrm d.Neg (d.Digits.take (d.Digits.length-m)++List.replicate m 48) d.Scale=(Q5 d s,0):=by
   rw[XM,hv,e0,Nat.pow_zero,Nat.mul_one]
   ·rfl
   ·rw[hv,e0,Nat.pow_zero,Nat.mul_one];refine jx (by decide) (zgV (Nat.div_mul_le_self _ _) g2 g3)
   ·exact Nat.le_trans (zB _ _ _) (by omega)
  rw[hn]at hx;cases hx;rfl
theorem zn0(v S:Nat){s:Int}(hS:S≤62)(h1: -62≤s):v/10^((S:Int)-s).toNat*10^((S:Int)-s).toNat*10^(62+s).toNat=quo v S s*10^(62+S):=by
 unfold quo;by_cases h:s≤S
 ·rw[show(s-(S:Int)).toNat=0 by omega,Nat.pow_zero,Nat.mul_one,Nat.mul_assoc,←Nat.pow_add,show((S:Int)-s).toNat+(62+s).toNat=62+S by omega]
 ·rw[show((S:Int)-s).toNat=0 by omega,Nat.pow_zero,Nat.div_one,Nat.mul_one,Nat.div_one,Nat.mul_assoc,←Nat.pow_add,show(s-(S:Int)).toNat+(62+S)=(62+s).toNat by omega]
theorem zrU{d:Decimal}(hd:VD d){s:Int}(h1: -62≤s)(h2:s≤62):VD (Q5 d s)∧exact (val (Q5 d s).Digits) (Q5 d s).Scale.toNat s∧quo (val (Q5 d s).Digits) (Q5 d s).Scale.toNat s=quo (val d.Digits) d.Scale.toNat s:=by
 obtain⟨g1,g2,g3,g4,g5,_⟩:=hd;have hS62:d.Scale.toNat≤62:=by omega
 have hvd:VD (Q5 d s):=VD.of (jx (by decide) (zgV (Nat.div_mul_le_self _ _) g2 g3)) (Nat.le_trans (zB _ _ _) (by omega));have hg:=ziG d.Neg (val d.Digits/10^cutK d s*10^cutK d s) hS62;have hS':(Q5 d s).Scale.toNat≤62:=by have:=hvd.2.2.2.2.1;omega
 have key:val (Q5 d s).Digits*10^(62+s).toNat=quo (val d.Digits) d.Scale.toNat s*10^(62+(Q5 d s).Scale.toNat):=by
  refine Nat.eq_of_mul_eq_mul_right (pow_pos (62+(d.Scale.toNat:Int)).toNat) ?_;have hg':val (Q5 d s).Digits*10^(62+(d.Scale.toNat:Int)).toNat=val d.Digits/10^cutK d s*10^cutK d s*10^(62+(Q5 d s).Scale.toNat):=hg;have e1:(62+(d.Scale.toNat:Int)).toNat=62+d.Scale.toNat:=by omega
  rw[Nat.mul_right_comm,hg',Nat.mul_right_comm,Nat.mul_right_comm (quo _ _ _),e1];congr 1;exact zn0 (val d.Digits) d.Scale.toNat hS62 h1
 exact⟨hvd,((YO (n:=quo (val d.Digits) d.Scale.toNat s) hS' (by omega) (by omega)).2 ⟨_,XU _,key⟩).1,zic hS' (by omega) (by omega) key⟩
def grD(ng:Bool)(q:Nat)(sc:Int):Decimal:=jI (canon ng (q*10^(-sc).toNat) sc.toNat)
theorem zt4{N:Nat}(hN:3000<N){d:Decimal}(hd:VD d){n:Nat}{sc:Int}(h1:1≤n)(h18:n≤18)(hs1: -18≤sc)(hs:sc≤18)(he:exact (val d.Digits) d.Scale.toNat sc):
  zib N d (n:Int) sc=some (grD d.Neg (quo (val d.Digits) d.Scale.toNat sc%10^n) sc,0):=by
 obtain⟨t,e1,e2,e3,e4,e5⟩:=(KP hN hd (n:=n) (s:=sc) (by omega) (by omega) (by omega)).1 he;have hl:d.Digits.length≤1000:=by have:=hd.2.2.1;omega
 unfold zib;rw[zbF hN hl h1 (by omega) (by omega) (by omega),if_pos hd,zc,zf,if_pos rfl,e1,zc];dsimp only;have hin:zj ((t.length:Int)-(n:Int)) (t.length:Int) t.length=true:=by unfold zj;simp<;>omega
 have hv:val (t.drop (t.length-n))=quo (val d.Digits) d.Scale.toNat sc%10^n:=by rw[(jl e2 e4).2,e3]
 have hlt:quo (val d.Digits) d.Scale.toNat sc%10^n<10^n:=Nat.mod_lt _ (pow_pos n);have hne:t.drop (t.length-n)≠[]:=by intro h;have:=congrArg List.length h;rw[List.length_drop,List.length_nil]at this;omega
 have h10:(10:Nat)^n≤10^18:=Nat.pow_le_pow_right (by decide) h18;have hvd:=zkP (ng:=d.Neg) (q:=quo (val d.Digits) d.Scale.toNat sc%10^n) (sc:=sc) (by omega) hs1 hs;obtain⟨_,_,v3,_,v5,_⟩:=hvd;have v3:(canon d.Neg (quo (val d.Digits) d.Scale.toNat sc%10^n*10^(-sc).toNat) sc.toNat).2.1.length≤62:=v3;rw[Bool.not_true,cond_false,zg (by omega) (by omega),za,hin,za,Ve _ e4,za6 hN _ (e2.drop _) hne (by rw[List.length_drop];omega) (by omega) (by omega),zc,XM,hv]
 ·rfl
 ·rw[hv];exact v3
 ·exact Nat.le_trans (zB _ _ _) (by omega)
def zeD(d:Decimal)(n:Nat)(sc:Int):Nat:=quo (val d.Digits) d.Scale.toNat sc%10^n
def zoe(s:Shape)(n:Nat)(d:Decimal):Bool:=(d.Neg&&decide (zeD d n s.Scale≠0))&&s.Signed
theorem zrV(d:Decimal)(s:Int):(Q5 d s).Neg=(d.Neg&&decide (val d.Digits/10^cutK d s*10^cutK d s≠0)):=ze8 _ _ _
theorem zsW{d:Decimal}(hS:d.Scale.toNat≤62){n:Nat}{sc:Int}(h1: -62≤sc)(h:zeD d n sc≠0):(Q5 d sc).Neg=d.Neg:=by
 rw[zrV];have:val d.Digits/10^cutK d sc*10^cutK d sc≠0:=by
  intro e;have hk:=zn0 (val d.Digits) d.Scale.toNat hS h1;have e':val d.Digits/10^((d.Scale.toNat:Int)-sc).toNat*10^((d.Scale.toNat:Int)-sc).toNat=0:=e;rw[e',Nat.zero_mul]at hk;have:quo (val d.Digits) d.Scale.toNat sc=0:=by
   rcases Nat.mul_eq_zero.1 hk.symm with h|h
   ·exact h
   ·exact absurd h (Nat.ne_of_gt (pow_pos _))
  apply h;unfold zeD;rw[this,Nat.zero_mod]
 rw[decide_eq_true this,Bool.and_true]
theorem zs3(ng:Bool)(q:Nat)(sc:Int):(grD ng q sc).Neg=(ng&&decide (q≠0)):=by show(canon ng (q*10^(-sc).toNat) sc.toNat).1=_;rw[zfu];congr 1;exact decide_eq_decide.2 ⟨fun h e=>h (by rw[e,Nat.zero_mul]),fun h=>Nat.mul_ne_zero h (Nat.ne_of_gt (pow_pos _))⟩
theorem zpv{ng ng':Bool}{q:Nat}(sc:Int)(h:q≠0→ng=ng'):grD ng q sc=grD ng' q sc:=by unfold grD;rw[zhu (fun e=>h (fun e0=>e (by rw[e0,Nat.zero_mul])))]
theorem zq8{N:Nat}(hN:3000<N){d:Decimal}(hd:VD d){n:Nat}{sc:Int}(h1:1≤n)(h18:n≤18)(hs1: -18≤sc)(hs:sc≤18):
  zib N (Q5 d sc) (n:Int) sc=some (grD d.Neg (zeD d n sc) sc,0):=by
 obtain⟨c1,c2,c3⟩:=zrU hd (s:=sc) (by omega) (by omega);rw[zt4 hN c1 h1 h18 hs1 hs c2,c3];have e:grD (Q5 d sc).Neg (zeD d n sc) sc=grD d.Neg (zeD d n sc) sc:=zpv sc fun h=>zsW (by have:=hd.2.2.2.2.1;omega) (by omega) h
 show some (grD (Q5 d sc).Neg (zeD d n sc) sc,(0:Int))=_;rw[e]
theorem zay(d:Decimal)(n:Nat)(sc:Int):zeD d n sc<10^n:=Nat.mod_lt _ (pow_pos n)
theorem zrl{ng:Bool}{q n:Nat}{sc:Int}(hq:q<10^n)(hn:n≤18)(h1: -18≤sc)(h2:sc≤18):VD (grD ng q sc):=by have h10:(10:Nat)^n≤10^18:=Nat.pow_le_pow_right (by decide) hn;exact zkP (by omega) h1 h2
theorem zs2(ng:Bool){q n:Nat}{sc:Int}(hq:q<10^n)(h1: -18≤sc)(h2:sc≤18):qK (grD ng q sc) n sc∧quo (val (grD ng q sc).Digits) (grD ng q sc).Scale.toNat sc=q:=by refine⟨(zpu ng q n h1 h2).2 hq,?_⟩;have hg:=zfv ng q (sc:=sc) (by omega);have hcs:=zB ng (q*10^(-sc).toNat) sc.toNat;show quo (val (canon ng (q*10^(-sc).toNat) sc.toNat).2.1) (((canon ng (q*10^(-sc).toNat) sc.toNat).2.2:Int)).toNat sc=q;rw[Int.toNat_natCast];exact zic (by omega) (by omega) (by omega) hg
theorem zj5(s:Shape){n q:Nat}(ng:Bool)(hq:q<10^n)(h1: -18≤s.Scale)(h2:s.Scale≤18):zsJ s n (grD ng q s.Scale)=(wr s n ((ng&&decide (q≠0))&&s.Signed) (fmt n q),0):=by obtain⟨f1,f2⟩:=zs2 ng hq h1 h2;unfold zsJ;rw[if_pos f1,f2,zs3]
theorem zsU{N:Nat}(hN:3000<N){s:Shape}{n:Nat}(h:NS s n)(hc:chkV s=0)(hp:s.Picture.length≤400){d:Decimal}(hd:VD d):
  zsV N d s=some (wr s n (zoe s n d) (fmt n (zeD d n s.Scale)),0):=by
 have h1:=h.sc1;have h2:=h.sc2;obtain⟨t,e1⟩:=zrO hN hd (s:=s.Scale) (by omega) (by omega);unfold zsV;rw[e1,zc];dsimp only;rw[decide_eq_true rfl,Bool.not_true,cond_false,h.dig,zq8 hN hd h.n1 h.n18 h1 h2,zc];dsimp only;rw[decide_eq_true rfl,Bool.not_true,cond_false,znP hN h hc hp (zrl (zay d n s.Scale) h.n18 h1 h2),zj5 s d.Neg (zay d n s.Scale) h1 h2,zc];rfl
end Go.Proofs.C06
end
section
set_option maxRecDepth 100000
namespace Go.Proofs.C06
open Go Go.RowKit Go.Vc Go.Am Go.Dg
structure MS(s:Shape)(z:Nat):Prop where
 chk:chkV s=0
 pic:s.Picture.length≤400
 siz:s.Size=(z:Int)
 c0:0≤s.Category
 c5:s.Category≤5
 u0:0≤s.Usage
 zle:z≤1048576
 zl:s.Category≠0→z≤400
theorem zlv{s:Shape}(h:chkV s=0):yF s=0:=by
 unfold chkV at h;by_cases hE:yF s=0
 ·exact hE
 ·rw[if_pos hE]at h;exact absurd h hE
theorem ztG{s:Shape}(h:chkV s=0)(hp:s.Picture.length≤400)(hc:0≤s.Category)(hu:0≤s.Usage):∃z,MS s z:=by
 have hE:=zlv h;have hE':=hE;unfold yF at hE;split at hE
 ·cases hE
 ·rename_i h1;split at hE
  ·cases hE
  ·rename_i h2;split at hE
   ·cases hE
   ·rename_i h3;by_cases h0:s.Category=0
    ·refine⟨s.Size.toNat,h,hp,by omega,hc,by omega,hu,by omega,fun e=>absurd h0 e⟩
    ·have hs:=zsz h h0;have hz:0≤sizeV s∧sizeV s≤400:=by
      unfold sizeV;rw[if_neg h0];split
      ·have:szN s.Picture≤s.Picture.length:=by unfold szN;omega
       omega
      ·repeat' split
       all_goals omega
     refine⟨s.Size.toNat,h,hp,by omega,hc,by omega,hu,by omega,fun _=>by omega⟩
def alw(a b:Int):Bool:=decide ((bits .and .u8 ((Am.zeY (atV [.int .u8 63,.int .u8 15,.int .u8 63,.int .u8 15,.int .u8 61,.int .u8 61] a))/2^b.toNat) 1)=1)
def qZ(s t:Shape):Bool:=if s.Category=4∧0<s.Scale∧(t.Category=2∨t.Category=3)then false else alw s.Category t.Category
theorem zcC(N:Nat){s t:Shape}(h1:0≤s.Category)(h2:s.Category≤5)(h3:0≤t.Category)(h4:t.Category≤5):Yz N s t=some (qZ s t):=by
 have k1:qb N s t=some (alw s.Category t.Category):=by
  unfold qb;have hn:(ze t.Category&&Nat.ble t.Category.toNat 8)=true:=by unfold ze;rw[decide_eq_true h3,Bool.true_and,Nat.ble_eq];omega
  rw[zm.2 ⟨h1,by omega⟩,za,hn,za];rfl
 have k0:∀x:Bool,x=decide (t.Category=2∨t.Category=3)→Zm N x s t=some (qZ s t):=by
  intro x hx;unfold Zm qZ;rw[k1,zb];by_cases e4:s.Category=4
  ·rw[if_pos e4,zb];by_cases es:0<s.Scale
   ·rw[if_pos es];cases x with
    |true=>rw[cond_true,if_pos ⟨e4,es,of_decide_eq_true hx.symm⟩]
    |false=>rw[cond_false,if_neg (fun e=>of_decide_eq_false hx.symm e.2.2)]
   ·rw[if_neg es,if_neg (fun e=>es e.2.1)]
  ·rw[if_neg e4,if_neg (fun e=>e4 e.1)]
 unfold Yz;rw[zb];by_cases e2:t.Category=2
 ·rw[if_pos e2];exact k0 _ (decide_eq_true (.inl e2)).symm
 ·rw[if_neg e2];exact k0 _ (decide_eq_decide.2 ⟨fun e=>.inr e,fun e=>by rcases e with e|e;exact absurd e e2;exact e⟩)
theorem zlL{s t:Shape}(h4:s.Category=4)(h:qZ s t=true)(h1:0≤t.Category)(h2:t.Category≤5)(ht:t.Category≠0)(ht4:t.Category≠4)(ht5:t.Category≠5):s.Scale≤0:=by
 unfold qZ at h;split at h
 ·cases h
 ·rename_i hn;have:t.Category=1∨t.Category=2∨t.Category=3:=by omega
  rcases this with e|e|e
  ·rw[h4,e]at h;exact absurd h (by decide)
  ·apply Classical.byContradiction;intro hs;exact hn ⟨h4,by omega,.inl e⟩
  ·apply Classical.byContradiction;intro hs;exact hn ⟨h4,by omega,.inr e⟩
def yc(s:Shape)(b:List UInt8):Decimal×Int:=if s.Category=4 then yD s s.Digits.toNat b else if s.Category=5 then zfz s s.Digits.toNat s.Scale.toNat b else if(Lib.trimS b [32]≠[]∧Digs (Lib.trimS b [32]))∧(Lib.trimS b [32]).length≤62 then nrm false (Lib.trimS b [32]) 0 else(zdI,15)
theorem NS.nat{s:Shape}{n:Nat}(h:NS s n):s.Digits.toNat=n:=by have:=h.dig;omega
theorem ES.nat{s:Shape}{n sc:Nat}{sg:Bool}(h:ES s n sc sg):s.Digits.toNat=n∧s.Scale.toNat=sc:=by have:=h.dig;have:=h.scl;omega
theorem zjK(b cs:List UInt8):(Lib.trimS b cs).length≤b.length:=by
 have h:∀(p:UInt8→Bool)(l:List UInt8),(l.dropWhile p).length≤l.length:=fun p l=>(List.dropWhile_sublist p).length_le
 unfold Lib.trimS Lib.trimRightS Lib.trimLeftS;refine Nat.le_trans (h _ _) ?_;rw[List.length_reverse];refine Nat.le_trans (h _ _) ?_;rw[List.length_reverse];exact Nat.le_refl _
theorem zn8{l:List UInt8}(hd:Digs l)(hl:l.length≤62)(h0:l≠[]):∃d,nrm false l 0=(d,0)∧VD d:=by
 have h1:1≤l.length:=by cases l with|nil=>exact absurd rfl h0|cons _ _=>simp
 have hv:val l<10^l.length:=js hd;have c1:(canon false (val l*10^(-(0:Int)).toNat) (0:Int).toNat).2.1.length≤62:=by rw[show(-(0:Int)).toNat=0 from rfl,Nat.pow_zero,Nat.mul_one];exact Nat.le_trans (jx h1 hv) hl
 have c2:(canon false (val l*10^(-(0:Int)).toNat) (0:Int).toNat).2.2≤62:=Nat.le_trans (zB _ _ _) (by decide);exact⟨_,XM c1 c2,VD.of c1 c2⟩
theorem ziF{s:Shape}{n:Nat}(h:NS s n){b:List UInt8}(h0:(yD s n b).2=0):VD (yD s n b).1:=by
 unfold yD at h0⊢;by_cases hr:(JQ s n b).2=0
 ·rw[if_pos hr];obtain⟨r1,r2,r3⟩:=Wf h hr;rw[r3];obtain⟨d1,d2⟩:=zia h r1 r2;exact (zn7 h d1 d2).1
 ·rw[if_neg hr]at h0;exact absurd h0 hr
theorem zsd{s:Shape}{n sc:Nat}{sg:Bool}(h:ES s n sc sg){b:List UInt8}(h0:(zfz s n sc b).2=0):VD (zfz s n sc b).1:=by
 have h18:=h.n18;have hsc:=h.scn;have hq:=(zlC h b).2.2;unfold zfz at h0⊢;split at h0
 ·cases h0
 ·rename_i e1;rw[if_neg e1];split at h0
  ·rename_i e2;rw[if_pos e2];exact zoj (n:=n) (by omega) h.n1 hq (by omega)
  ·rename_i e2;rw[if_neg e2];split at h0
   ·rename_i e3;rw[if_pos e3];exact zoj (n:=n) (by omega) h.n1 hq (by omega)
   ·cases h0
theorem zhX{s:Shape}{n:Nat}(h:NS s n):szV s n≤300:=by
 have:=h.n18;unfold szV binW
 repeat' split
 all_goals omega
theorem MS.sz4{s:Shape}{z n:Nat}(h:MS s z)(hn:NS s n):z=szV s n:=by have h1:=h.siz;have h2:=hn.size;omega
theorem zez{N:Nat}(hN:3000<N){s:Shape}{z:Nat}(h:MS s z)(h0:s.Category≠0){b:List UInt8}(hb:b.length=z):
  zdv N (fld s b)=some (yc s b)∧((yc s b).2=0→VD (yc s b).1):=by
 have hz:=h.zl h0;unfold zdv yc;show cond (decide (s.Category=4)) _ (cond (decide (s.Category=5)) _ _)=_∧_;rw[zb];by_cases h4:s.Category=4
 ·rw[if_pos h4,if_pos h4];obtain⟨n,hn⟩:=zcz h.chk h4 h.u0;have hz:=zhX hn;rw[←h.sz4 hn]at hz;rw[hn.nat,zhU hN hn h.chk h.pic (by omega),zc];exact⟨rfl,ziF hn⟩
 ·rw[if_neg h4,if_neg h4,zb];by_cases h5:s.Category=5
  ·rw[if_pos h5,if_pos h5];obtain⟨n,sc,sg,hn⟩:=zfe h.chk h5;rw[hn.nat.1,hn.nat.2];have:=zlQ hN hn h.chk b;rw[show fld s b=zuw s b from rfl,this,zc];exact⟨rfl,zsd hn⟩
  ·rw[if_neg h5,if_neg h5];have hl:=zjK b [32];show bnd (Zp b [32]) _=_∧_;rw[zaD (by omega) (by decide) (by decide),zc,zi5 (by omega) (by omega),zc,zf];by_cases hd:Lib.trimS b [32]≠[]∧Digs (Lib.trimS b [32])
   ·rw[if_pos hd,zb];by_cases h62:(Lib.trimS b [32]).length≤62
    ·obtain⟨d,e1,e2⟩:=zn8 hd.2 h62 hd.1;rw[if_neg (by omega),if_pos ⟨hd,h62⟩,za6 hN false hd.2 hd.1 (by omega) (by decide) (by decide),zc,e1];exact⟨rfl,fun _=>e2⟩
    ·rw[if_pos (by omega),if_neg (fun e=>h62 e.2)];exact⟨rfl,fun e=>by cases e⟩
   ·rw[if_neg hd,if_neg (fun e=>hd e.1)];exact⟨rfl,fun e=>by cases e⟩
def zby(t:Shape)(d:Decimal):List UInt8×Int:=if t.Category=5 then((edT t t.Digits.toNat d.Neg (Vr d t.Digits.toNat t.Scale.toNat)).getD [],0)else(wr t t.Digits.toNat (zoe t t.Digits.toNat d) (fmt t.Digits.toNat (zeD d t.Digits.toNat t.Scale)),0)
def lenT(s:Shape):Nat:=s.Digits.toNat+(-s.Scale).toNat
def qr(s t:Shape)(b:List UInt8):List UInt8×Int:=if s.Category≠4∨t.Category=0 then(b,0)else if(yD s s.Digits.toNat b).2≠0 then([],(yD s s.Digits.toNat b).2)else if qK (yD s s.Digits.toNat b).1 (lenT s) 0 then(fmt (lenT s) (quo (val (yD s s.Digits.toNat b).1.Digits) (yD s s.Digits.toNat b).1.Scale.toNat 0),0)else([],14)
theorem zq5{N:Nat}(hN:3000<N){s t:Shape}{z:Nat}(h:MS s z)(hsc:s.Category=4→t.Category≠0→s.Scale≤0){b:List UInt8}(hb:b.length=z):zod N (fld s b) t=some (qr s t b)∧(qr s t b).1.length≤1048576:=by
 have hz:=h.zle;unfold zod qr;show cond (!decide (s.Category=4)) _ _=_∧_;rw[zf];by_cases h4:s.Category=4
 ·rw[if_pos h4,zb];by_cases t0:t.Category=0
  ·rw[if_pos t0,if_pos (.inr t0)];exact⟨rfl,by rw[hb];exact hz⟩
  ·rw[if_neg t0,if_neg (by rintro(e|e);exact e h4;exact t0 e)];obtain⟨n,hn⟩:=zcz h.chk h4 h.u0;have hz3:=zhX hn;rw[←h.sz4 hn]at hz3;rw[hn.nat,zhU hN hn h.chk h.pic (by omega),zc,zf];by_cases hg:(yD s n b).2=0
   ·have hs0:=hsc h4 t0;have hs1:=hn.sc1;have h18:=hn.n18;have h1:=hn.n1;have hdg:=hn.dig;have em:jd s.Scale 0=0:=by unfold jd;split<;>omega
    have el:(s.Digits-s.Scale)+jd s.Scale 0=((lenT s:Nat):Int):=by unfold lenT;rw[em];omega
    have elt:lenT s=n+(-s.Scale).toNat:=by unfold lenT;rw[hn.nat]
    rw[if_pos hg,if_neg (fun e=>e hg)];show chk (inKb .i64 (s.Digits-s.Scale)) (chk (inKb .i64 ((s.Digits-s.Scale)+jd s.Scale 0)) (bnd (JR N (yD s n b).1 ((s.Digits-s.Scale)+jd s.Scale 0) 0) _))=_∧_;rw[el,zg (by omega) (by omega),za,zg (by omega) (by omega),za,Wh hN (ziF hn hg) (by omega) (by omega) (by decide) (by decide),zc];refine⟨rfl,?_⟩;split
    ·show(fmt _ _).length≤_;rw[je];omega
    ·show([]:List UInt8).length≤_;decide
   ·rw[if_neg hg,if_pos hg];exact⟨rfl,Nat.zero_le _⟩
 ·rw[if_neg h4,if_pos (.inl h4)];exact⟨rfl,by rw[hb];exact hz⟩
def mvV(s t:Shape)(b:List UInt8):List UInt8×Int:=if qZ s t=false then([],12)else if s.Category=0 then(fit b t.Size.toNat false,0)else if t.Category=4∨t.Category=5 then(if(yc s b).2≠0 then([],(yc s b).2)else zby t (yc s b).1)else if(qr s t b).2≠0 then([],(qr s t b).2)else if t.Category=3 then(txt t.Picture (qr s t b).1,0)else(fit (qr s t b).1 t.Size.toNat t.Just,0)
theorem ztJ{t:Shape}(h:chkV t=0)(h3:t.Category=3):Xp t 3=0:=by unfold Xp;rw[if_neg (fun e=>e h),if_neg (fun e=>e h3)]
theorem zq7{N:Nat}(hN:3000<N){s t:Shape}{z z':Nat}(h:MS s z)(h':MS t z'){b:List UInt8}(hb:b.length=z):zeB N (fld s b) t=some (mvV s t b):=by
 have hz:=h.zle;have hz':=h'.zle;have hS:s.Size.toNat=z:=by have:=h.siz;omega
 have hT:t.Size.toNat=z':=by have:=h'.siz;omega
 have k1:∀x:Bool,qZ s t=true→s.Category≠0→x=decide (t.Category=4∨t.Category=5)→XR N x (fld s b) t=some (mvV s t b):=by
  intro x hal h0 hx;unfold XR mvV;rw[if_neg (by rw[hal];decide),if_neg h0];cases x with
  |true=>
   have ht:=of_decide_eq_true hx.symm;obtain⟨e1,e2⟩:=zez hN h h0 hb;rw[cond_true,if_pos ht,e1,zc,zf];by_cases hn:(yc s b).2=0
   ·rw[if_pos hn,if_neg (fun e=>e hn),zb];unfold zby;by_cases h5:t.Category=5
    ·rw[if_pos h5,if_pos h5];obtain⟨n,sc,sg,hes⟩:=zfe h'.chk h5;obtain⟨r,f1,f2⟩:=zfQ hN hes h'.chk (e2 hn);rw[hes.nat.1,hes.nat.2,f2,f1,zc];rfl
    ·rw[if_neg h5,if_neg h5];have h4:t.Category=4:=by omega
     obtain⟨n,hns⟩:=zcz h'.chk h4 h'.u0;rw[hns.nat,zsU hN hns h'.chk h'.pic (e2 hn),zc]
   ·rw[if_neg hn,if_pos hn]
  |false=>
   have ht:=of_decide_eq_false hx.symm;obtain⟨e1,e2⟩:=zq5 (t:=t) hN h (fun h4 t0=>zlL h4 hal h'.c0 h'.c5 t0 (fun e=>ht (.inl e)) (fun e=>ht (.inr e))) hb;rw[cond_false,if_neg ht,e1,zc,zf];by_cases hn:(qr s t b).2=0
   ·rw[if_pos hn,if_neg (fun e=>e hn),zb];by_cases h3:t.Category=3
    ·have hk:=ztJ h'.chk h3;have hzz:=h'.zl (by omega);rw[if_pos h3,if_pos h3,zlP (by omega) h'.pic _ (fun _=>by have:=h'.siz;omega),if_neg (fun e=>e hk),zc]
    ·rw[if_neg h3,if_neg h3,h'.siz,zoy N (by omega) hz',zc,Int.toNat_natCast]
   ·rw[if_neg hn,if_pos hn]
 have k0:XS N false (fld s b) t=some (mvV s t b):=by
  unfold XS;rw[cond_false];show cond (!decide ((b.length:Int)=s.Size)) _ (bnd (Yz N s t) _)=_;rw[decide_eq_true (by rw[hb,h.siz]),Bool.not_true,cond_false,zcC N h.c0 h.c5 h'.c0 h'.c5,zc];cases hal:qZ s t with
  |false=>rw[Bool.not_false,cond_true];unfold mvV;rw[if_pos hal]
  |true=>
   rw[Bool.not_true,cond_false];show cond (decide (s.Category=0)) (bnd (zpU N b t.Size false) _) _=_;rw[zb];by_cases h0:s.Category=0
   ·rw[if_pos h0,h'.siz,zoy N (by omega) hz',zc];unfold mvV;rw[if_neg (by rw[hal];decide),if_pos h0,hT]
   ·rw[if_neg h0,zb];by_cases h4:t.Category=4
    ·rw[if_pos h4];exact k1 true hal h0 (decide_eq_true (.inl h4)).symm
    ·rw[if_neg h4];exact k1 _ hal h0 (decide_eq_decide.2 ⟨fun e=>.inr e,fun e=>by rcases e with e|e;exact absurd e h4;exact e⟩)
 unfold zeB;show bnd (KF N s) _=_;rw[Z4 (by omega) h.pic,h.chk,zc,decide_eq_true rfl,Bool.not_true,cond_false,Z4 (by omega) h'.pic,h'.chk,zc,decide_eq_true rfl,Bool.not_true];exact k0
end Go.Proofs.C06
end
section
set_option maxRecDepth 100000
namespace Go.Proofs.C06
open Go Go.RowKit Go.Vc Go.Am Go.Dg
theorem zir:zaA 4000=some true:=by kernel_rfl
def tx(c:Int)(p:List UInt8)(just:Bool):Shape:=Shape.mk c 0 p 0 0 false false false just false (p.length:Int)
theorem zoi{c:Int}{p:List UInt8}(hpar:parS p=(tx c p false,0))(hne:p≠[])(hl:p.length≤80)(hsym:∀x∈p,syms.contains x=true)(hc:1≤c∧c≤3)(hsz:(tx c p false).Size=sizeV (tx c p false)):Good p (tx c p false) where
 par:=hpar
 ne:=hne
 len:=hl
 sym:=hsym
 pic:=rfl
 cat:=by show 1≤c∧c≤5;omega
 use:=rfl
 dig:=by show(0:Int)≤18;decide
 num:=fun h=>by have h:c=4:=h;omega
 sca:=by show(0:Int)≤18;decide
 led:=rfl
 sep:=rfl
 jus:=rfl
 bla:=rfl
 siz:=hsz
theorem zrm{m:Nat}(h1:1≤m)(h2:m≤80):Good (List.replicate m 65) (tx 1 (List.replicate m 65) false)∧Good (List.replicate m 88) (tx 2 (List.replicate m 88) false):=by
 have hl:∀c:UInt8,(List.replicate m c).length=m:=fun c=>List.length_replicate
 have hne:∀c:UInt8,List.replicate m c≠[]:=fun c e=>by have:=congrArg List.length e;rw[hl]at this;simp at this;omega
 have hsz:∀(c:UInt8)(k:Int),c≠86→(k=1∨k=2)→(tx k (List.replicate m c) false).Size=sizeV (tx k (List.replicate m c) false):=fun c k hc hk=>by
  unfold sizeV;rw[if_neg (show¬(tx k (List.replicate m c) false).Category=0 from fun e=>by have e:k=0:=e;omega),if_pos (show(tx k (List.replicate m c) false).Category≠4 from fun e=>by have e:k=4:=e;omega)];unfold szN;show((List.replicate m c).length:Int)=(((List.replicate m c).length-(List.replicate m c).count 86:Nat):Int)
  rw[List.count_eq_zero.2 (fun hm=>hc (List.eq_of_mem_replicate hm).symm),Nat.sub_zero]
 have cn:∀(set:List UInt8)(c:UInt8),set.contains c=true→cnt set (List.replicate m c)=(List.replicate m c).length:=fun set c h=>zcd fun x hx=>by rw[List.eq_of_mem_replicate hx];exact h
 refine⟨zoi ?_ (hne _) (by rw[hl];exact h2) (fun c hc=>by rw[List.eq_of_mem_replicate hc];decide) (by decide) (hsz 65 1 (by decide) (.inl rfl)),zoi ?_ (hne _) (by rw[hl];exact h2) (fun c hc=>by rw[List.eq_of_mem_replicate hc];decide) (by decide) (hsz 88 2 (by decide) (.inr rfl))⟩
 ·unfold parS zbv;rw[if_pos (cn [65] 65 (by decide))];rfl
 ·unfold parS zbv;have k1:¬cnt [65] (List.replicate m (88:UInt8))=(List.replicate m (88:UInt8)).length:=by
   obtain⟨k,rfl⟩:∃k,m=k+1:=⟨m-1,by omega⟩
   rw[List.replicate_succ,jN,if_neg (by decide),List.length_cons];omega
  have k2:¬(List.replicate m (88:UInt8)).countP zpq=0:=by
   obtain⟨k,rfl⟩:∃k,m=k+1:=⟨m-1,by omega⟩
   rw[List.replicate_succ,List.countP_cons_of_pos (by rfl)];omega
  rw[if_neg k1,if_neg k2,if_pos (cn [65,88,57] 88 (by decide))];rfl
theorem ztz{c:Int}{p:List UInt8}(hg:Good p (tx c p false))(hc:c=1∨c=2)(just:Bool):MS (tx c p just) p.length:=by
 have hpar:=zhd hg;have hl:=hg.len;have hs:(p.length:Int)=sizeV (tx c p false):=hg.siz;have hs':(p.length:Int)=sizeV (tx c p just):=hs;refine⟨?_,by show p.length≤400;omega,rfl,by show 0≤c;omega,by show c≤5;omega,by show(0:Int)≤0;decide,by omega,fun _=>by omega⟩;have e1:yF (tx c p just)=0:=by unfold yF tx;dsimp only;rw[if_neg (by omega),if_neg (by omega),if_neg (by omega)]
 unfold chkV;rw[if_neg (fun k=>k e1),if_neg (show¬(tx c p just).Category=0 from fun e=>by have e:c=0:=e;omega)];unfold zc7;rw[show(tx c p just).Picture=p from rfl,hpar];unfold Xk;have n4:c≠4:=by omega
 simp only[tx,ne_eq,not_true_eq_false,if_false,or_self,decide_false,Bool.false_eq_true,false_and,not_false_eq_true,n4];rw[if_neg (by rintro⟨_,e1,e2⟩;omega)];exact if_pos hs'
def gr(n:Nat):Shape:=Shape.mk 0 0 [] 0 0 false false false false false (n:Int)
theorem zuk{n:Nat}(h:n≤1000):MS (gr n) n:=by
 refine⟨?_,Nat.zero_le _,rfl,Int.le_refl 0,show(0:Int)≤5 by decide,Int.le_refl 0,by omega,fun e=>absurd rfl e⟩;have e1:yF (gr n)=0:=by unfold yF gr;dsimp only;rw[if_neg (by omega),if_neg (by omega),if_neg (by omega)]
 have e2:zcH (gr n):=⟨rfl,rfl,rfl,rfl,rfl,rfl,rfl,rfl,rfl⟩
 unfold chkV;rw[if_neg (fun k=>k e1),if_pos (show(gr n).Category=0 from rfl),if_pos e2]
theorem zvv(l:List UInt8):shT (3::l)=tx 3 (picT (3::l)) false:=by
 unfold shT zfs;rw[if_neg]
 ·rfl
 ·intro h;have:=zjd h 66 (by unfold picT;simp[sy6]);exact absurd this (by decide)
theorem zvi{l:List UInt8}(hl:l.length≤19):MS (tx 3 (picT (3::l)) false) (picT (3::l)).length:=by have hg:=zpw (l:=3::l) (by simpa using hl);rw[zvv]at hg;have:=hg.len;exact⟨zkQ hg,by show(picT _).length≤400;omega,rfl,show(0:Int)≤3 by decide,show(3:Int)≤5 by decide,Int.le_refl 0,by omega,fun _=>by omega⟩
structure FX(x:F_64):Prop where
 k0:0≤x.Kind
 d0:0≤x.Number_Digits
 d1:x.Number_Digits≤255
 p0:0≤x.Number_Point
 p1:x.Number_Point≤255
 f0:0≤x.Number_Form
 f1:x.Number_Form≤255
 s0:0≤x.Edited_Sign
 o0:0≤x.Edited_Dollar
 w0:0≤x.Edited_Whole
 m0:0≤x.Edited_Many
 n0:0≤x.Edited_Nines
 t0:0≤x.Edited_Point
 a0:0≤x.Edited_Part
 ins:∀v∈x.Edited_Insert,0≤v∧v≤65535
def fF(x:F_64):F:=F.mk x.Number_Digits x.Number_Point x.Number_Form x.Number_Neg x.Number_Value
def fE(x:F_64):E:=E.mk x.Edited_Sign x.Edited_Dollar x.Edited_Whole x.Edited_Many x.Edited_Nines x.Edited_Point x.Edited_Part x.Edited_Insert x.Edited_Blank
theorem zbo{N:Nat}{sym:UInt8}{x:F_64}{b1:Shape}{c:Int}{m:Nat}(hm:m≤1000):∀(k i:Nat),i≤m→m-i<k→
  Qb N k [sym] (i:Int) x b1 (Shape.mk c 0 (List.replicate i sym) 0 0 false false false false false (m:Int))=some (tx c (List.replicate m sym) x.Just)
 |0,i,_,hk=>by omega
 |k+1,i,hi,hk=>by
  show KA N (Qb N k) [sym] _ x b1 _=_;unfold KA;dsimp only;rw[zb];by_cases h:i<m
  ·rw[if_pos (by omega),qB (by simp;omega),za,zg (by omega) (by omega),za,←List.replicate_succ',show(i:Int)+1=((i+1:Nat):Int)by omega];exact zbo hm k (i+1) (by omega) (by omega)
  ·have:i=m:=by omega
   subst this;rw[if_neg (by omega)];unfold tx;rw[List.length_replicate]
theorem zt0{c:UInt8}:atS ([[88],[65],[57],[66],[48],[47]]:List (List UInt8)) ((c.toNat:Int)%6)=[sy6 c]:=by
 unfold atS sy6;rw[show((c.toNat:Int)%6).toNat=c.toNat%6 by omega];have h:c.toNat%6<6:=Nat.mod_lt _ (by decide);generalize c.toNat%6=j at h;rcases j with _|_|_|_|_|_|j
 all_goals first|rfl|omega
theorem zbn{N:Nat}{x:F_64}{b1:Shape}{n:Nat}(hn:n≤x.Text.length)(h24:n≤24)(z:Int):∀(k i:Nat),i≤min n 12→min n 12-i<k→
  Qa N k (n:Int) (i:Int) x b1 (Shape.mk 3 0 (picT (3::x.Text.take i)) 0 0 false false false false false z)=some (tx 3 (picT (3::x.Text.take (min n 12))) false)
 |0,i,_,hk=>by omega
 |k+1,i,hi,hk=>by
  show Kz N (Qa N k) _ _ x b1 _=_;unfold Kz;dsimp only;have hlen:(picT (3::x.Text.take i)).length≤100:=by unfold picT;simp;omega
  rw[zb];by_cases h:i<min n 12
  ·have hit:i<x.Text.length:=by omega
   have hnn:(ze (byteAt x.Text (i:Int))&&decide ((0:Int)<6))=true:=by show(ze (((x.Text.getD i 0).toNat:Nat):Int)&&_)=true;unfold ze;rw[decide_eq_true (by omega)];rfl
   have hb:byteAt x.Text (i:Int)=(((x.Text.getD i 0).toNat:Nat):Int):=rfl;rw[if_pos (by omega),zb,if_pos (by omega),zm.2 ⟨by omega,by omega⟩,za];have hnn':(ze (byteAt x.Text (i:Int))&&decide (0<6))=true:=hnn;rw[hnn',za,hb,zm.2 ⟨by omega,by show _<((6:Nat):Int);omega⟩,za,za,zt0,qB (by simp;omega),za,zg (by omega) (by omega),za];have e:picT (3::x.Text.take i)++[sy6 (x.Text.getD i 0)]=picT (3::x.Text.take (i+1)):=by rw[zl6 hit];unfold picT;simp
   rw[e,show(i:Int)+1=((i+1:Nat):Int)by omega];exact zbn hn h24 z k (i+1) (by omega) (by omega)
  ·have:i=min n 12:=by omega
   subst this;by_cases h2:(((min n 12:Nat):Nat):Int)<(n:Int)
   ·rw[if_pos h2,zb,if_neg (by omega)];rfl
   ·rw[if_neg h2];rfl
theorem zq4(a b:Nat):Vq (a:Int) (b:Int)=((min a b:Nat):Int):=by unfold Vq;split<;>omega
theorem zhC{N:Nat}(hN:3000<N){x:F_64}(hx:FX x):∃s z,zcl N x=some s∧MS s z∧z≤400∧s.Category=x.Kind%6∧(s.Category=3→z=s.Picture.length)∧
  (s.Category=4→Jx N (fF x)=some s)∧(s.Category=5→QY N (fE x)=some s):=by
 have hk:=hx.k0;obtain⟨k,hk6⟩:=Wo (k:=6) hk (by decide);have hlt:k<6:=by omega
 have hn:Vq ((x.Text).length:Int) 24=((min x.Text.length 24:Nat):Int):=zq4 _ 24;obtain⟨n,hn'⟩:∃n,n=min x.Text.length 24:=⟨_,rfl⟩
 rw[←hn']at hn;have hn24:n≤24:=by omega
 have hm:jd (n:Int) 1=((max n 1:Nat):Int):=by unfold jd;split<;>omega
 have key:∀t:Bool,t=decide ((k:Int)=1∨(k:Int)=2)→∃s z,Qd N (n:Int) (k:Int) t x z0 (Shape.mk (k:Int) 0 [] 0 0 false false false false false (n:Int))=some s∧MS s z∧z≤400∧s.Category=(k:Int)∧(s.Category=3→z=s.Picture.length)∧
   (s.Category=4→Jx N (fF x)=some s)∧(s.Category=5→QY N (fE x)=some s):=by
  intro t ht;unfold Qd;dsimp only;have txt:∀(c:Int)(sym:UInt8),(c=1∧sym=65∨c=2∧sym=88)→∃s z,Qc N (n:Int) [sym] x z0 (Shape.mk c 0 [] 0 0 false false false false false (n:Int))=some s∧MS s z∧z≤400∧s.Category=c∧(s.Category=3→z=s.Picture.length)∧
    (s.Category=4→Jx N (fF x)=some s)∧(s.Category=5→QY N (fE x)=some s):=by
   intro c sym hc;have hg:=zrm (m:=max n 1) (by omega) (by omega);refine⟨tx c (List.replicate (max n 1) sym) x.Just,max n 1,?_,?_,?_,rfl,fun e=>?_,fun e=>?_,fun e=>?_⟩
   ·unfold Qc;dsimp only;rw[hm];exact zbo (by omega) N 0 (by omega) (by omega)
   ·rcases hc with⟨rfl,rfl⟩|⟨rfl,rfl⟩
    ·have:=ztz hg.1 (.inl rfl) x.Just;rwa [List.length_replicate]at this
    ·have:=ztz hg.2 (.inr rfl) x.Just;rwa [List.length_replicate]at this
   ·omega
   ·have e:c=3:=e;omega
   ·have e:c=4:=e;omega
   ·have e:c=5:=e;omega
  cases t with
  |true=>
   have ht:=of_decide_eq_true ht.symm;rw[cond_true,zb];by_cases h2:(k:Int)=2
   ·rw[if_pos h2,h2];exact txt 2 88 (.inr ⟨rfl,rfl⟩)
   ·rw[if_neg h2];have h1:(k:Int)=1:=by omega
    rw[h1];exact txt 1 65 (.inl ⟨rfl,rfl⟩)
  |false=>
   have ht:=of_decide_eq_false ht.symm;rw[cond_false,zb];by_cases h3:(k:Int)=3
   ·rw[if_pos h3,h3];have hl3:=zbn (N:=N) (x:=x) (b1:=z0) (n:=n) (by omega) hn24 (n:Int) N 0 (by omega) (by omega);refine⟨tx 3 (picT (3::x.Text.take (min n 12))) false,(picT (3::x.Text.take (min n 12))).length,hl3,zvi (by rw[List.length_take];omega),?_,rfl,fun _=>rfl,(fun e=>by cases e),(fun e=>by cases e)⟩;unfold picT;simp;omega
   ·rw[if_neg h3,zb];by_cases h4:(k:Int)=4
    ·rw[if_pos h4,h4];have hf:=zhj (N:=N) hN (x:=fF x) (dg:=x.Number_Digits.toNat) (fm:=x.Number_Form.toNat) (pt:=x.Number_Point.toNat) (by have:=hx.d0;show x.Number_Digits=_;omega) (by have:=hx.f0;show x.Number_Form=_;omega) (by have:=hx.f1;omega) (by have:=hx.p0;show x.Number_Point=_;omega) (by have:=hx.p1;omega) (by have:=hx.d1;omega);have h1:1≤x.Number_Digits.toNat%18+1:=by omega
     have h2:x.Number_Digits.toNat%18+1≤18:=by omega
     obtain⟨g1,g2,g3⟩:=zqx (pt:=x.Number_Point.toNat) (fm:=x.Number_Form.toNat) h1 h2;obtain⟨z,hz⟩:=ztG g2 g3 (by rw[g1.cat];decide) (by rcases g1.use with e|e|e<;>rw[e]<;>decide);have hcat:=g1.cat;refine⟨shX (x.Number_Digits.toNat%18+1) x.Number_Point.toNat x.Number_Form.toNat,z,?_,hz,hz.zl (by rw[hcat];decide),hcat,(fun e=>by rw[hcat]at e;cases e),fun _=>hf,(fun e=>by rw[hcat]at e;cases e)⟩;show bnd (Jx N (fF x)) _=_;rw[hf,zc]
    ·rw[if_neg h4,zb];by_cases h5:(k:Int)=5
     ·rw[if_pos h5,h5];obtain⟨sg,w,mn,ni,pt,pa,hp⟩:=ztE (x:=fE x) hx.s0 hx.o0 hx.w0 hx.m0 hx.n0 hx.t0 hx.a0;obtain⟨s,n',sc,g,e1,e2,e3,e4,e5⟩:=zhm hN hp hx.ins;have hcat:=e3.cat;have hu:s.Usage=0:=by
       have:=zlv e2;apply Classical.byContradiction;intro hu;unfold chkV at e2;rw[if_neg (fun h=>h this),if_neg (by omega)]at e2;unfold zc7 at e2;split at e2
       ·rename_i hh;exact hh e2
       ·split at e2
        ·cases e2
        ·unfold Xk at e2;split at e2
         ·cases e2
         ·rw[if_pos ⟨hu,by omega⟩]at e2;cases e2
      obtain⟨z,hz⟩:=ztG e2 (by omega) (by rw[hcat];decide) (by omega);refine⟨s,z,?_,hz,hz.zl (by rw[hcat];decide),hcat,(fun e=>by rw[hcat]at e;cases e),(fun e=>by rw[hcat]at e;cases e),fun _=>e1⟩;show bnd (QY N (fE x)) _=_;rw[e1,zc]
     ·have hk0:k=0:=by omega
      subst hk0;rw[if_neg h5];exact⟨gr n,n,rfl,zuk (by omega),by omega,rfl,(fun e=>by cases e),(fun e=>by cases e),(fun e=>by cases e)⟩
 have hnn:(ze x.Kind&&decide (0<6))=true:=by unfold ze;rw[decide_eq_true hk];rfl
 unfold zcl;rw[hnn,za,hn,hk6,zb];by_cases h1:(k:Int)=1
 ·rw[if_pos h1];exact key _ (decide_eq_decide.2 ⟨fun e=>.inl e,fun _=>h1⟩)
 ·rw[if_neg h1];exact key _ (decide_eq_decide.2 ⟨fun e=>.inr e,fun e=>by rcases e with e|e;exact absurd e h1;exact e⟩)
end Go.Proofs.C06
end
section
set_option maxRecDepth 100000
namespace Go.Proofs.C06
open Go Go.RowKit Go.Vc Go.Am Go.Dg
def fv(b:List UInt8)(sh:Int)(j:Nat):UInt8:=if sh≤(j:Int)∧(j:Int)-sh<(b.length:Int)then b.getD ((j:Int)-sh).toNat 0 else 32
theorem zkS(l:List UInt8)(i j:Nat)(v:UInt8):(l.set i v).getD j 0=if i=j∧i<l.length then v else l.getD j 0:=by
 rw[List.getD_eq_getElem?_getD,List.getD_eq_getElem?_getD,List.getElem?_set];by_cases h:i=j
 ·subst h;rw[if_pos rfl];by_cases h2:i<l.length
  ·rw[if_pos h2,if_pos ⟨rfl,h2⟩];rfl
  ·rw[if_neg h2,if_neg (fun e=>h2 e.2),List.getElem?_eq_none (by omega)]
 ·rw[if_neg h,if_neg (fun e=>h e.1)]
theorem VJ{N:Nat}{b:List UInt8}{n:Nat}(hb:b.length≤1000000)(hn:n≤1000000){sh:Int}(h1: -1000000≤sh)(h2:sh≤1000000):∀(k i:Nat)(L:List UInt8),i≤n→n-i<k→L.length=n→
  ∃R,yk N k b (n:Int) sh (i:Int) L=some R∧R.length=n∧(∀j,j<i→R.getD j 0=L.getD j 0)∧∀j,i≤j→j<n→R.getD j 0=fv b sh j
 |0,i,_,_,hk,_=>by omega
 |k+1,i,L,hi,hk,hL=>by
  show∃R,QC N (yk N k) b _ sh _ L=some R∧_;unfold QC;rw[zb];by_cases h:i<n
  ·have hi1:(i:Int)+1=((i+1:Nat):Int):=by omega
   have go:∀L':List UInt8,L'.length=n→(∀j,j<i→L'.getD j 0=L.getD j 0)→L'.getD i 0=fv b sh i→∃R,yk N k b (n:Int) sh ((i+1:Nat):Int) L'=some R∧R.length=n∧(∀j,j<i→R.getD j 0=L.getD j 0)∧∀j,i≤j→j<n→R.getD j 0=fv b sh j:=by
    intro L' e1 e2 e3;obtain⟨R,r1,r2,r3,r4⟩:=VJ hb hn h1 h2 k (i+1) L' (by omega) (by omega) e1;refine⟨R,r1,r2,fun j hj=>(r3 j (by omega)).trans (e2 j hj),fun j j1 j2=>?_⟩;by_cases hji:j=i
    ·subst hji;exact (r3 j (by omega)).trans e3
    ·exact r4 j (by omega) j2
   have s1:∀v:UInt8,(L.set i v).length=n∧(∀j,j<i→(L.set i v).getD j 0=L.getD j 0)∧(L.set i v).getD i 0=v:=fun v=>⟨by rw[List.length_set,hL],fun j hj=>by rw[zkS,if_neg (by omega)],by rw[zkS,if_pos ⟨rfl,by omega⟩]⟩
   have h32:(inIx (i:Int) L.length&&inKb .u8 32)=true:=by rw[zm.2 ⟨by omega,by omega⟩];rfl
   rw[if_pos (by omega),zm.2 ⟨by omega,by omega⟩,za];rw[show chk (true&&inKb .u8 32)=chk (true:Bool) (α:=List UInt8)from rfl,za,Int.toNat_natCast];have k2:∀t:Bool,t=decide (sh≤(i:Int)∧(i:Int)-sh<(b.length:Int))→∃R,lFitted_k2 N (yk N k) b (n:Int) sh (i:Int) t (L.set i (toByte 32))=some R∧R.length=n∧(∀j,j<i→R.getD j 0=L.getD j 0)∧∀j,i≤j→j<n→R.getD j 0=fv b sh j:=by
    intro t ht;unfold lFitted_k2;cases t with
    |true=>
     have ht:=of_decide_eq_true ht.symm;have hq:(i:Int)-sh=((((i:Int)-sh).toNat:Nat):Int):=by omega
     have hbt:byteAt b ((i:Int)-sh)=(((b.getD ((i:Int)-sh).toNat 0).toNat:Nat):Int):=rfl;rw[cond_true,zg (by omega) (by omega),za,zm.2 ⟨by omega,by omega⟩,za,zm.2 ⟨by omega,by rw[List.length_set];omega⟩,za,hbt,jL,Bool.and_self,za,zg (by omega) (by omega),za,hi1,jv,Int.toNat_natCast,List.set_set];obtain⟨a1,a2,a3⟩:=s1 (b.getD ((i:Int)-sh).toNat 0);exact go _ a1 a2 (by rw[a3];unfold fv;rw[if_pos ht])
    |false=>have ht:=of_decide_eq_false ht.symm;rw[cond_false,zg (by omega) (by omega),za,hi1];obtain⟨a1,a2,a3⟩:=s1 (toByte 32);exact go _ a1 a2 (by rw[a3];unfold fv;rw[if_neg ht];rfl)
   rw[zb];by_cases hs:sh≤(i:Int)
   ·rw[if_pos hs,zg (by omega) (by omega),za];exact k2 _ (decide_eq_decide.2 ⟨fun e=>⟨hs,e⟩,fun e=>e.2⟩)
   ·rw[if_neg hs];exact k2 false (decide_eq_false (fun e=>hs e.1)).symm
  ·rw[if_neg (by omega)];exact⟨L,rfl,hL,fun _ _=>rfl,fun j j1 j2=>by omega⟩
theorem zm2{a b:List UInt8}(hl:a.length=b.length)(h:∀j,j<a.length→a.getD j 0=b.getD j 0):a=b:=by apply List.ext_getElem hl;intro j h1 h2;have:=h j h1;rwa [List.getD_eq_getElem?_getD,List.getD_eq_getElem?_getD,List.getElem?_eq_getElem h1,List.getElem?_eq_getElem h2]at this
theorem zrs(b:List UInt8)(n:Nat)(left:Bool){j:Nat}(hj:j<n):(fit b n left).getD j 0=fv b (if left=true then(n:Int)-(b.length:Int)else 0) j:=by
 unfold fit fv;cases left with
 |true=>
  rw[if_pos rfl,if_pos rfl,List.getD_eq_getElem?_getD];by_cases h:j<n-b.length
  ·rw[List.getElem?_append_left (by rw[List.length_replicate];omega),List.getElem?_replicate,if_pos h,if_neg (by omega)];rfl
  ·rw[List.getElem?_append_right (by rw[List.length_replicate];omega),List.length_replicate,List.getElem?_drop,if_pos (by omega),List.getD_eq_getElem?_getD];congr 2;omega
 |false=>
  simp only[Bool.false_eq_true,if_false];rw[List.getD_eq_getElem?_getD];by_cases h:j<b.length
  ·rw[List.getElem?_append_left (by rw[List.length_take];omega),List.getElem?_take,if_pos hj,if_pos (by omega),List.getD_eq_getElem?_getD];congr 2
  ·rw[List.getElem?_append_right (by rw[List.length_take];omega),List.getElem?_replicate,if_pos (by rw[List.length_take];omega),if_neg (by omega)];rfl
theorem zeT{N:Nat}{b:List UInt8}{n:Nat}(hb:b.length≤500000)(hn:n<N)(hn2:n≤500000)(left:Bool):QD N b (n:Int) left=some (fit b n left):=by
 have key:∀sh:Int,sh=(if left=true then(n:Int)-(b.length:Int)else 0)→Jt N b (n:Int) sh (List.replicate n 0)=some (fit b n left):=by
  intro sh hsh;obtain⟨R,r1,r2,r3,r4⟩:=VJ (N:=N) (b:=b) (n:=n) (by omega) (by omega) (sh:=sh) (by rw[hsh];split<;>omega) (by rw[hsh];split<;>omega) N 0 (List.replicate n 0) (Nat.zero_le _) (by omega) List.length_replicate;unfold Jt;rw[show((0:Nat):Int)=0 from rfl]at r1;rw[r1];congr 1;refine zm2 (by rw[r2,zdy]) fun j hj=>?_
  rw[r2]at hj;rw[r4 j (Nat.zero_le _) hj,zrs b n left hj,hsh]
 unfold QD;rw[zq3 (by omega),za,Int.toNat_natCast];cases left with
 |true=>rw[cond_true,zg (by omega) (by omega),za];exact key _ (by rw[if_pos rfl])
 |false=>rw[cond_false];exact key 0 (by rw[if_neg (by decide)])
end Go.Proofs.C06
end
section
set_option maxRecDepth 100000
namespace Go.Proofs.C06
open Go Go.RowKit Go.Vc Go.Am Go.Dg
theorem zut{N:Nat}(hN:3000<N){x:F}(h1:0≤x.Digits)(h2:x.Digits≤255)(h3:0≤x.Point)(h4:x.Point≤255)(h5:0≤x.Form)(h6:x.Form≤255):
  ∃s n ng l,Jx N x=some s∧NS s n∧chkV s=0∧s.Picture.length≤400∧Digs l∧l.length=n∧(ng=true→s.Signed=true∧val l≠0)∧fOf N x=some (fld s (wr s n ng l))∧zoo N x=some (zkg s ng l):=by
 have hsh:=zhj (N:=N) hN (x:=x) (dg:=x.Digits.toNat) (fm:=x.Form.toNat) (pt:=x.Point.toNat) (by omega) (by omega) (by omega) (by omega) (by omega) (by omega);obtain⟨n,hn⟩:∃n,n=x.Digits.toNat%18+1:=⟨_,rfl⟩
 obtain⟨l,ht,hd,hl⟩:=zkY (N:=N) hN (x:=x) h1;rw[←hn]at hsh hl;obtain⟨hns,hc,hp⟩:=zqx (n:=n) (pt:=x.Point.toNat) (fm:=x.Form.toNat) (by omega) (by omega);generalize shX n x.Point.toNat x.Form.toNat=s at hsh hns hc hp;have h18:=hns.n18;have hsc1:=hns.sc1;have hsc2:=hns.sc2;have hk:(10:Nat)^(-s.Scale).toNat≠0:=Nat.ne_of_gt (pow_pos _);have hv:∀ng:Bool,Qw N ng l s.Scale=some (jI (canon ng (val l*10^(-s.Scale).toNat) s.Scale.toNat)):=fun ng=>zg6 hN ng hd (by omega) (by omega) (by omega)
 obtain⟨ng,hng⟩:∃ng,ng=(x.Neg&&(s.Signed&&decide (val l≠0))):=⟨_,rfl⟩
 refine⟨s,n,ng,l,hsh,hns,hc,hp,hd,hl,?_,?_,?_⟩
 ·intro e;rw[hng]at e;simp only[Bool.and_eq_true,decide_eq_true_eq]at e;exact e.2
 ·unfold fOf;rw[hsh,zc,ht,zc,zpn hN hns hd hl x.Neg,zc,←hng];rfl
 ·have e:∀g:Bool,(val l≠0→g=ng)→jI (canon g (val l*10^(-s.Scale).toNat) s.Scale.toNat)=zkg s ng l:=by intro g hg;unfold zkg;rw[zhu (fun h=>hg (fun e=>h (by rw[e,Nat.zero_mul])))]
  unfold zoo;rw[hsh,zc];cases hxn:x.Neg with
  |true=>rw[cond_true,ht,zc,hv,zc,e s.Signed];intro h;rw[hng,hxn,decide_eq_true h,Bool.true_and,Bool.and_true]
  |false=>rw[cond_false,ht,zc,hv,zc,e false];intro _;rw[hng,hxn];rfl
end Go.Proofs.C06
end
section
set_option maxRecDepth 100000
namespace Go.Proofs.C06
open Go Go.RowKit Go.Vc Go.Am Go.Dg
theorem zhD{N:Nat}{x:F_64}{s:Shape}{z:Nat}(hs:s.Size=(z:Int))(hz:z≤1000000):∀(k i:Nat)(L:List UInt8),i≤z→z-i<k→L.length=z→
  ∃b,zcm N k (i:Int) x 0 0 [] 0 0 false false false false false 0 s s.Category s.Usage s.Picture s.Digits s.Scale s.Signed s.Leading s.Separate s.Just s.Blank s.Size L=some (fld s b)∧b.length=z
 |0,i,_,_,hk,_=>by omega
 |k+1,i,L,hi,hk,hL=>by
  show∃b,zfN N (zcm N k) _ x 0 0 [] 0 0 false false false false false 0 s _ _ _ _ _ _ _ _ _ _ _ L=some (fld s b)∧_;unfold zfN;rw[hs,zb];by_cases h:i<z
  ·have hi1:(i:Int)+1=((i+1:Nat):Int):=by omega
   have ih:∀L':List UInt8,L'.length=z→∃b,zcm N k ((i+1:Nat):Int) x 0 0 [] 0 0 false false false false false 0 s s.Category s.Usage s.Picture s.Digits s.Scale s.Signed s.Leading s.Separate s.Just s.Blank (z:Int) L'=some (fld s b)∧b.length=z:=fun L' hL'=>by have:=zhD (N:=N) (x:=x) hs hz k (i+1) L' (by omega) (by omega) hL';rwa [hs]at this
   rw[if_pos (by omega),zm.2 ⟨by omega,by omega⟩,za];rw[show chk (true&&inKb .u8 32)=chk (true:Bool) (α:=Field)from rfl,za,zb];by_cases ht:0<(x.Text.length:Int)
   ·have hnn:(ze (i:Int)&&decide (0<(x.Text.length:Int)))=true:=by unfold ze;rw[decide_eq_true ht,decide_eq_true (by omega)];rfl
    have hmod:(i:Int)% (x.Text.length:Int)=((i%x.Text.length:Nat):Int):=by omega
    have hml:i%x.Text.length<x.Text.length:=Nat.mod_lt _ (by omega);have hbt:byteAt x.Text ((i%x.Text.length:Nat):Int)=(((x.Text.getD (i%x.Text.length) 0).toNat:Nat):Int):=rfl;rw[if_pos ht,hnn,za,hmod,zm.2 ⟨by omega,by omega⟩,za,List.length_set,zm.2 ⟨by omega,by omega⟩,za,hbt,jL,Bool.and_self,za,zg (by omega) (by omega),za,hi1];exact ih _ (by rw[List.length_set,List.length_set,hL])
   ·rw[if_neg ht,zg (by omega) (by omega),za,hi1];exact ih _ (by rw[List.length_set,hL])
  ·have:i=z:=by omega
   subst this;rw[if_neg (by omega)];exact⟨L,by rw[←hs];rfl,hL⟩
theorem zuO{N:Nat}(hN:3000<N){x:F_64}(hx:FX x):∃s z b,zcl N x=some s∧MS s z∧z≤400∧s.Category=x.Kind%6∧FOf N x=some (fld s b)∧b.length=z:=by
 obtain⟨s,z,e1,hm,hz,hc,_,h4,h5⟩:=zhC hN hx;have hS:=hm.siz;unfold FOf;rw[e1];by_cases c4:s.Category=4
 ·obtain⟨s',n,ng,l,f1,hs,hchk,hp,hd,hl,hng,f2,f3⟩:=zut hN (x:=fF x) hx.d0 hx.d1 hx.p0 hx.p1 hx.f0 hx.f1;rw[h4 c4]at f1;cases f1;refine⟨s,z,wr s n ng l,rfl,hm,hz,hc,?_,?_⟩
  ·rw[zc,decide_eq_true c4,cond_true];show bnd (fOf N (fF x)) _=_;rw[f2,zc]
  ·rw[(ztC hs hd hl hng).2,hm.sz4 hs]
 ·by_cases c5:s.Category=5
  ·obtain⟨sg,w,mn,ni,pt,pa,hp⟩:=ztE (x:=fE x) hx.s0 hx.o0 hx.w0 hx.m0 hx.n0 hx.t0 hx.a0;obtain⟨s',n,sc,g,f1,f2,hES,h12,f5⟩:=zhm hN hp hx.ins;rw[h5 c5]at f1;cases f1;obtain⟨l,e2,hld,hll⟩:=zkY hN (x:=fF x) hx.d0;obtain⟨d1,d2,d3⟩:=zvc hld h12;have hsc:=hES.scn;have hn1:=hES.n1;have hll2:l.length≤18:=by rw[hll];have:=Nat.mod_lt (fF x).Digits.toNat (show 0<18 by decide);omega
   generalize hds:(l++qh).take n=ds at d1 d2;have hq:val ds<10^n:=by have:=js d1;rwa [d2]at this
   refine⟨s,z,zng s (fmt n (val ds)) (x.Number_Neg&&decide (val ds≠0)),rfl,hm,hz,hc,?_,?_⟩
   ·rw[zc,decide_eq_false c4,cond_false,decide_eq_true c5,cond_true];show bnd (zcK N (fF x)) _=_;have htk:zZ (l++qh) (n:Int)=ds:=hds;rw[e2,zc];show chk (zJ l qh) (chk (zj 0 s.Digits (l++qh).length) (bnd (Qw N x.Number_Neg (zZ (l++qh) s.Digits) s.Scale) _))=_;rw[qB (by show _+12≤_;omega),za,hES.dig,d3,za,htk,hES.scl,ztR hN x.Number_Neg d1 (by omega) (by omega),zc,zsk hN hES f2 x.Number_Neg hq,zc];rw[←hES.dig,←hES.scl];rfl
   ·have:=zlj hES (yI n (val ds)) (je n (val ds)) (x.Number_Neg&&decide (val ds≠0));omega
  ·obtain⟨b,g1,g2⟩:=zhD (N:=N) (x:=x) hS (by omega) N 0 (List.replicate z 0) (Nat.zero_le _) (by omega) List.length_replicate;refine⟨s,z,b,rfl,hm,hz,hc,?_,g2⟩;rw[zc,decide_eq_false c4,cond_false,decide_eq_false c5,cond_false];have hrep:(List.replicate s.Size.toNat (0:UInt8))=List.replicate z 0:=by rw[hS,Int.toNat_natCast]
   have hmk:(XO 1 s.Size&&decide (s.Size=s.Size))=true:=by rw[hS];exact zq3 (by omega)
   rw[hmk,za,hrep];exact g1
theorem znQ:∀(p b:List UInt8),(txt p b).length=p.length
 |[],_=>rfl
 |c::p,b=>by unfold txt;split<;>rw[List.length_cons,List.length_cons,znQ p]
end Go.Proofs.C06
end
section
set_option maxRecDepth 100000
namespace Go.Proofs.C06
open Go Go.RowKit Go.Vc Go.Am Go.Dg
theorem zma{t:Shape}{z:Nat}(h:MS t z)(h45:t.Category=4∨t.Category=5){d:Decimal}(_hd:VD d):(zby t d).2=0∧(zby t d).1.length=z:=by
 unfold zby;by_cases h5:t.Category=5
 ·obtain⟨n,sc,sg,hes⟩:=zfe h.chk h5;have hq:Vr d n sc<10^n:=Nat.mod_lt _ (pow_pos n);rw[if_pos h5,hes.nat.1,hes.nat.2,zos hes d.Neg hq];have:=zlj hes (yI n (Vr d n sc)) (je n (Vr d n sc)) (d.Neg&&decide (Vr d n sc≠0));have:=h.siz;exact⟨rfl,by show(zng t (fmt n (Vr d n sc)) (d.Neg&&decide (Vr d n sc≠0))).length=z;omega⟩
 ·have h4:t.Category=4:=by omega
  obtain⟨n,hns⟩:=zcz h.chk h4 h.u0;have hv:=KM n _ (zay d n t.Scale);rw[if_neg h5,hns.nat];refine⟨rfl,?_⟩;show(wr t n (zoe t n d) (fmt n (zeD d n t.Scale))).length=z;rw[(ztC hns (yI _ _) (je _ _) (fun e=>by unfold zoe at e;simp only[Bool.and_eq_true,decide_eq_true_eq]at e;exact⟨e.2,by rw[hv];exact e.1.2⟩)).2,h.sz4 hns]
theorem zkh{s:Shape}{z:Nat}(h:MS s z)(h0:s.Category≠0){b:List UInt8}(hb:b.length=z):(yc s b).2=0→VD (yc s b).1:=
 (zez (N:=4000) (by decide) h h0 hb).2
theorem zue{s t:Shape}{z z':Nat}(h:MS s z)(h':MS t z'){b:List UInt8}(hb:b.length=z)(h3:t.Category≠3)(he:(mvV s t b).2=0):(mvV s t b).1.length=z':=by
 have hT:t.Size.toNat=z':=by have:=h'.siz;omega
 unfold mvV at he⊢;split at he
 ·cases he
 ·rename_i h1;rw[if_neg h1];split at he
  ·rename_i h2;rw[if_pos h2];show(fit b t.Size.toNat false).length=z';rw[zdy,hT]
  ·rename_i h2;rw[if_neg h2];split at he
   ·rename_i h45;rw[if_pos h45];split at he
    ·rename_i hn;exact absurd he hn
    ·rename_i hn;rw[if_neg hn];exact (zma h' h45 (zkh h h2 hb (Classical.byContradiction hn))).2
   ·rename_i h45;rw[if_neg h45];split at he
    ·rename_i hn;exact absurd he hn
    ·rename_i hn;rw[if_neg hn,if_neg h3];show(fit _ t.Size.toNat t.Just).length=z';rw[zdy,hT]
theorem numOf_err{t:Shape}{z:Nat}(h:MS t z)(h45:t.Category=4∨t.Category=5){r:List UInt8}(hr:r.length=z):(yc t r).2=0∨(yc t r).2=15:=by
 unfold yc;by_cases h4:t.Category=4
 ·obtain⟨n,hns⟩:=zcz h.chk h4 h.u0;rw[if_pos h4,hns.nat];have hrv:JQ t n r=if(rd t n r).2=true then((rd t n r).1,0)else(digits.mk false [],15):=by unfold JQ;rw[if_pos (by rw[hr,h.sz4 hns])]
  unfold yD;by_cases hk:(rd t n r).2=true
  ·rw[if_pos hk]at hrv;rw[hrv,if_pos rfl];exact .inl rfl
  ·rw[if_neg hk]at hrv;rw[hrv,if_neg (fun e=>by cases e)];exact .inr rfl
 ·have h5:t.Category=5:=by omega
  obtain⟨n,sc,sg,hes⟩:=zfe h.chk h5;rw[if_neg h4,if_pos h5,hes.nat.1,hes.nat.2];unfold zfz;rw[if_neg (by have:=h.siz;omega)];split
  ·exact .inl rfl
  ·split
   ·exact .inl rfl
   ·exact .inr rfl
end Go.Proofs.C06
end
section
set_option maxRecDepth 100000
namespace Go.Proofs.C06
open Go Go.RowKit Go.Vc Go.Am Go.Dg
theorem zha(N:Nat){s t:Shape}(h1:0≤s.Category)(h2:s.Category≤5)(h3:0≤t.Category)(h4:t.Category≤5):Wv N s t=some (qZ s t):=by
 have hs:s.Category=0∨s.Category=1∨s.Category=2∨s.Category=3∨s.Category=4∨s.Category=5:=by omega
 have ht:t.Category=0∨t.Category=1∨t.Category=2∨t.Category=3∨t.Category=4∨t.Category=5:=by omega
 unfold Wv YE K3 K2 qZ;by_cases hk:s.Scale≤0
 ·rw[decide_eq_true hk,if_neg (by rintro⟨_,e,_⟩;omega)];rcases hs with e|e|e|e|e|e<;>rcases ht with e'|e'|e'|e'|e'|e'<;>rw[e,e']<;>decide
 ·rw[decide_eq_false hk];by_cases hq:s.Category=4∧0<s.Scale∧(t.Category=2∨t.Category=3)
  ·rw[if_pos hq,hq.1];rcases hq.2.2 with e'|e'<;>rw[e']<;>decide
  ·rw[if_neg hq];rcases hs with e|e|e|e|e|e<;>rcases ht with e'|e'|e'|e'|e'|e'
   all_goals first
    |(exfalso;omega)
    |(rw[e,e'];decide)
def rd_(p:UInt8→Bool)(l:List UInt8):List UInt8:=(l.reverse.dropWhile p).reverse
theorem zsH(p:UInt8→Bool)(r:List UInt8)(c:UInt8):rd_ p (r++[c])=if p c=true then rd_ p r else r++[c]:=by
 unfold rd_;rw[List.reverse_append,List.reverse_singleton,List.singleton_append,List.dropWhile_cons];split
 ·rfl
 ·rw[List.reverse_cons,List.reverse_reverse]
theorem znY(p:UInt8→Bool)(c:UInt8)(r:List UInt8):rd_ p (c::r)=if rd_ p r=[]then(if p c=true then[]else[c])else c::rd_ p r:=by
 unfold rd_;rw[List.reverse_cons,List.dropWhile_append];cases h:r.reverse.dropWhile p with
 |nil=>
  rw[if_pos (by rfl),if_pos (by rfl),List.dropWhile_cons];split
  ·rfl
  ·rfl
 |cons a b=>rw[if_neg (by simp),if_neg (by simp),List.reverse_append];rfl
theorem zgF(p:UInt8→Bool):∀l:List UInt8,rd_ p (l.dropWhile p)=(rd_ p l).dropWhile p
 |[]=>rfl
 |c::r=>by
  rw[List.dropWhile_cons,znY];by_cases hc:p c=true
  ·rw[if_pos hc,if_pos hc,zgF p r];split
   ·rename_i h;rw[h]
   ·rw[List.dropWhile_cons,if_pos hc]
  ·rw[if_neg hc,if_neg hc,znY,if_neg hc];split
   ·rw[List.dropWhile_cons,if_neg hc]
   ·rw[List.dropWhile_cons,if_neg hc]
def sp(c:UInt8):Bool:=([32]:List UInt8).contains c
theorem zqw(c:UInt8):sp c=decide (((c.toNat:Nat):Int)=32):=by
 unfold sp;by_cases h:c=32
 ·subst h;rfl
 ·rw[decide_eq_false (fun e=>h (UInt8.toNat_inj.1 (by show c.toNat=32;omega)))];simp[h]
theorem zg8{N:Nat}(D:Decimal):∀(k:Nat)(b:List UInt8),b.length<k→b.length≤1000000→ZX N k b D=YD N (b.dropWhile sp) D
 |0,_,h,_=>by omega
 |k+1,[],_,_=>rfl
 |k+1,c::r,h,hl=>by
  rw[List.length_cons]at h hl;show X0 N (ZX N k) (c::r) D=_;unfold X0;rw[decide_eq_true (by rw[List.length_cons];omega),cond_true,zm.2 ⟨by omega,by rw[List.length_cons];omega⟩,za,List.dropWhile_cons,zqw];show cond (decide (((c.toNat:Nat):Int)=32)) _ _=_;rw[zb];by_cases hc:((c.toNat:Nat):Int)=32
  ·rw[if_pos hc,if_pos (decide_eq_true hc)];have e:Vc.sub (c::r) 1 (((c::r).length:Nat):Int)=r:=by unfold Vc.sub;rw[Int.toNat_natCast,List.take_length];rfl
   have ei:zj 1 (((c::r).length:Nat):Int) (c::r).length=true:=by unfold zj;rw[List.length_cons,decide_eq_true (by omega),decide_eq_true (by omega),decide_eq_true (by omega)];rfl
   rw[ei,za,e];exact zg8 D k r (by omega) (by omega)
  ·rw[if_neg hc,if_neg (by rw[decide_eq_false hc];decide)]
theorem zeM{N:Nat}(D:Decimal):∀(k:Nat)(b:List UInt8),b.length<k→b.length≤1000000→YA N k b D=YC N (rd_ sp b) D
 |0,_,h,_=>by omega
 |k+1,b,h,hl=>by
  rcases List.eq_nil_or_concat b with rfl|⟨r,c,rfl⟩
  ·rfl
  ·rw[List.concat_eq_append]at h hl⊢;rw[List.length_append,List.length_singleton]at h hl;have hlen:((((r++[c]).length:Nat):Int)-1)=((r.length:Nat):Int):=by rw[List.length_append,List.length_singleton];omega
   show X1 N (YA N k) (r++[c]) D=_;unfold X1;rw[decide_eq_true (by rw[List.length_append,List.length_singleton];omega),cond_true,hlen,zg (by omega) (by omega),za,zm.2 ⟨by omega,by rw[List.length_append,List.length_singleton];omega⟩,za,zsH,zqw];have hb:byteAt (r++[c]) ((r.length:Nat):Int)=((c.toNat:Nat):Int):=by show((((r++[c]).getD r.length 0).toNat:Nat):Int)=_;rw[List.getD_eq_getElem?_getD,List.getElem?_append_right (Nat.le_refl _),Nat.sub_self];rfl
   rw[hb,zb];by_cases hc:((c.toNat:Nat):Int)=32
   ·have e:Vc.sub (r++[c]) 0 ((r.length:Nat):Int)=r:=by unfold Vc.sub;rw[Int.toNat_natCast,List.take_left];rfl
    have ei:zj 0 ((r.length:Nat):Int) (r++[c]).length=true:=by unfold zj;rw[List.length_append,List.length_singleton,decide_eq_true (by omega),decide_eq_true (by omega),decide_eq_true (by omega)];rfl
    rw[if_pos hc,if_pos (decide_eq_true hc),za,ei,za,e];exact zeM D k r (by omega) (by omega)
   ·rw[if_neg hc,if_neg (by rw[decide_eq_false hc];decide)]
theorem zqo(b:List UInt8):rd_ sp (b.dropWhile sp)=Lib.trimS b [32]:=zgF sp b
theorem zg9{N:Nat}(D:Decimal){b:List UInt8}(hl:b.length≤1000000):∀(k i:Nat),i≤b.length→b.length-i<k→
  YB N k b (i:Int) D=if Digs (b.drop i)then(if b=[]∨62<b.length then some (Decimal.mk false [] 0,false)else bnd (K1 N false b 0) fun rr=>some (rr,true))else some (Decimal.mk false [] 0,false)
 |0,i,_,hk=>by omega
 |k+1,i,hi,hk=>by
  show X2 N (YB N k) b _ _=_;unfold X2;by_cases h:i<b.length
  ·have hd:b.drop i=b.getD i 0::b.drop (i+1):=by rw[List.getD_eq_getElem?_getD,List.getElem?_eq_getElem h];exact List.drop_eq_getElem_cons h
   have hb:byteAt b (i:Int)=((b.getD i 0).toNat:Int):=rfl;rw[decide_eq_true (by omega),cond_true,zm.2 ⟨by omega,by omega⟩,za,hb,zb];by_cases h1:48≤(b.getD i 0).toNat
   ·rw[if_neg (by omega),za,zb];by_cases h2:(b.getD i 0).toNat≤57
    ·rw[if_neg (by omega),zg (by omega) (by omega),za,show(i:Int)+1=((i+1:Nat):Int)by omega,zg9 D hl k (i+1) (by omega) (by omega)];by_cases hg:Digs (b.drop (i+1))
     ·rw[if_pos hg,if_pos (show Digs (b.drop i)by rw[hd];exact Digs.cons.2 ⟨⟨h1,h2⟩,hg⟩)]
     ·rw[if_neg hg,if_neg (show¬Digs (b.drop i)by rw[hd];exact fun e=>hg (Digs.cons.1 e).2)]
    ·rw[if_pos (by omega),if_neg (show¬Digs (b.drop i)by rw[hd];exact fun e=>h2 (Digs.cons.1 e).1.2)]
   ·rw[if_pos (by omega),if_neg (show¬Digs (b.drop i)by rw[hd];exact fun e=>h1 (Digs.cons.1 e).1.1)]
  ·have:b.length=i:=by omega
   subst this;rw[decide_eq_false (by omega),cond_false,List.drop_length,if_pos (show Digs []from Digs.nil),zb,zb];by_cases h0:b=[]
   ·subst h0;rfl
   ·have:b.length≠0:=fun e=>h0 (List.length_eq_zero_iff.1 e)
    rw[if_neg (by omega)];by_cases h6:62<b.length
    ·rw[if_pos (by omega),if_pos (.inr h6)]
    ·rw[if_neg (by omega),if_neg (by rintro(e|e);exact h0 e;exact h6 e)]
theorem zpm{N:Nat}(hN:3000<N){s:Shape}{z:Nat}(h:MS s z)(h0:s.Category≠0){b:List UInt8}(hb:b.length=z):
  ∃d,zeN N (fld s b)=some (d,decide ((yc s b).2=0))∧((yc s b).2=0→d=(yc s b).1):=by
 have hz:=h.zl h0;unfold zeN yc;show∃d,cond (decide (s.Category=4)) _ (cond (decide (s.Category=5)) _ (ZX N N b _))=_∧_;rw[zb];by_cases h4:s.Category=4
 ·rw[if_pos h4,if_pos h4];obtain⟨n,hn⟩:=zcz h.chk h4 h.u0;have hz:=zhX hn;rw[←h.sz4 hn]at hz;rw[hn.nat,zhU hN hn h.chk h.pic (by omega),zc];exact⟨_,rfl,fun _=>rfl⟩
 ·rw[if_neg h4,if_neg h4,zb];by_cases h5:s.Category=5
  ·rw[if_pos h5,if_pos h5];obtain⟨n,sc,sg,hn⟩:=zfe h.chk h5;rw[hn.nat.1,hn.nat.2];have:=zlQ hN hn h.chk b;rw[show fld s b=zuw s b from rfl,this,zc];exact⟨_,rfl,fun _=>rfl⟩
  ·rw[if_neg h5,if_neg h5,zg8 _ N b (by omega) (by omega)];unfold YD;have hl:=zjK b [32];have hdl:(b.dropWhile sp).length≤b.length:=(List.dropWhile_sublist _).length_le;rw[zeM _ N _ (by omega) (by omega),zqo];unfold YC;have e0:=zg9 (N:=N) (Decimal.mk false [] 0) (b:=Lib.trimS b [32]) (by omega) N 0 (Nat.zero_le _) (by omega);rw[show((0:Nat):Int)=0 from rfl]at e0;rw[e0,List.drop_zero];by_cases hd:Digs (Lib.trimS b [32])
   ·rw[if_pos hd];by_cases hn:Lib.trimS b [32]=[]
    ·rw[if_pos (.inl hn),if_neg (fun e=>e.1.1 hn)];exact⟨_,rfl,fun e=>by cases e⟩
    ·by_cases h62:(Lib.trimS b [32]).length≤62
     ·have hln:=Wu hN false hd (by omega) (s:=0) (by decide);rw[show((0:Nat):Int)=0 from rfl]at hln;rw[if_neg (by rintro(e|e);exact hn e;omega),if_pos ⟨⟨hn,hd⟩,h62⟩,hln,zc];have h1:1≤(Lib.trimS b [32]).length:=by
       cases hq:Lib.trimS b [32]with
       |nil=>exact absurd hq hn
       |cons _ _=>simp
      have hv:val (Lib.trimS b [32])<10^(Lib.trimS b [32]).length:=js hd;have c1:(canon false (val (Lib.trimS b [32])*10^(-(0:Int)).toNat) (0:Int).toNat).2.1.length≤62:=by rw[show(-(0:Int)).toNat=0 from rfl,Nat.pow_zero,Nat.mul_one];exact Nat.le_trans (jx h1 hv) h62
      have c2:(canon false (val (Lib.trimS b [32])*10^(-(0:Int)).toNat) (0:Int).toNat).2.2≤62:=Nat.le_trans (zB _ _ _) (by decide);have e1:=XM c1 c2;rw[show(-(0:Int)).toNat=0 from rfl,Nat.pow_zero,Nat.mul_one]at e1;rw[e1];exact⟨_,rfl,fun _=>rfl⟩
     ·rw[if_pos (.inr (by omega)),if_neg (fun e=>h62 e.2)];exact⟨_,rfl,fun e=>by cases e⟩
   ·rw[if_neg hd,if_neg (fun e=>hd e.1.2)];exact⟨_,rfl,fun e=>by cases e⟩
end Go.Proofs.C06
end
section
set_option maxRecDepth 100000
namespace Go.Proofs.C06
open Go Go.RowKit Go.Vc Go.Am Go.Dg
theorem zki{s:Shape}{z:Nat}(h:MS s z){b:List UInt8}(hb:b.length=z)(he:(yc s b).2≠0):(yc s b).2=15:=by
 by_cases h45:s.Category=4∨s.Category=5
 ·rcases numOf_err h h45 hb with e|e
  ·exact absurd e he
  ·exact e
 ·unfold yc at he⊢;rw[if_neg (fun e=>h45 (.inl e)),if_neg (fun e=>h45 (.inr e))]at he⊢;by_cases hd:(Lib.trimS b [32]≠[]∧Digs (Lib.trimS b [32]))∧(Lib.trimS b [32]).length≤62
  ·rw[if_pos hd]at he;obtain⟨d,e1,_⟩:=zn8 hd.1.2 hd.2 hd.1.1;rw[e1]at he;exact absurd rfl he
  ·rw[if_neg hd]
theorem zcE{N:Nat}{s t:Shape}{b:List UInt8}{m:Nat}(hm:s.Digits-s.Scale=(m:Int))(hm2:m≤1000):∀(k:Nat)(l:List UInt8),l.length≤1000→m-l.length<k→
  Jq N k (fld s b) t l=Jr N t (List.replicate (m-l.length) 48++l)
 |0,_,_,hk=>by omega
 |k+1,l,hl,hk=>by
  show Qz N (Jq N k) (fld s b) t l=_;unfold Qz;show chk (inKb .i64 (s.Digits-s.Scale)) (cond (decide ((l.length:Int)<s.Digits-s.Scale)) _ _)=_;rw[hm,zg (by omega) (by omega),za,zb];by_cases h:l.length<m
  ·have e0:([48].map toByte:List UInt8)=[48]:=rfl;rw[if_pos (by omega),e0,ym (by rw[List.length_append,List.length_singleton];omega),za,List.singleton_append,zcE hm hm2 k (48::l) (by rw[List.length_cons];omega) (by rw[List.length_cons];omega),List.length_cons];congr 1;rw[show m-l.length=(m-(l.length+1))+1 by omega,List.replicate_succ',List.append_assoc];rfl
  ·rw[if_neg (by omega),show m-l.length=0 by omega];rfl
theorem zpx{s:Shape}{n:Nat}(h:NS s n)(hs:s.Scale≤0){b:List UInt8}(h0:(yD s n b).2=0):
  qK (yD s n b).1 (lenT s) 0∧(yD s n b).1.Digits.length≤lenT s∧
  List.replicate (lenT s-(yD s n b).1.Digits.length) 48++(yD s n b).1.Digits=fmt (lenT s) (quo (val (yD s n b).1.Digits) (yD s n b).1.Scale.toNat 0):=by
 have h1:=h.n1;have h18:=h.n18;have hsc:=h.sc1;have hlt:lenT s=n+(-s.Scale).toNat:=by unfold lenT;rw[h.nat]
 unfold yD at h0⊢;by_cases hr:(JQ s n b).2=0
 ·rw[if_pos hr];obtain⟨r1,r2,r3⟩:=Wf h hr;rw[r3];obtain⟨d1,d2⟩:=zia h r1 r2;dsimp only;generalize hx:(rd s n b).1.s=x at d1 d2;generalize (rd s n b).1.neg=ng;have hv:val x*10^(-s.Scale).toNat<10^lenT s:=by rw[hlt,Nat.pow_add];have:=js d1;rw[d2]at this;exact Nat.mul_lt_mul_of_pos_right this (pow_pos _)
  generalize hV:val x*10^(-s.Scale).toNat=v at hv;have hz:s.Scale.toNat=0:=by omega
  have hnum:zkg s ng x=jI (canon ng v 0):=by unfold zkg;rw[hV,hz]
  rw[hnum];have c0:(canon ng v 0).2.2=0:=by have:=zB ng v 0;omega
  have cv:val (canon ng v 0).2.1=v:=by have:=Vi ng v 0;rw[c0,Nat.pow_zero,Nat.mul_one,Nat.mul_one]at this;exact this
  have cl:(canon ng v 0).2.1.length≤lenT s:=jx (by omega) hv;have cs:(jI (canon ng v 0)).Scale.toNat=0:=by show(((canon ng v 0).2.2:Nat):Int).toNat=0;omega
  show qK (jI (canon ng v 0)) _ _∧(canon ng v 0).2.1.length≤_∧List.replicate (lenT s-(canon ng v 0).2.1.length) 48++(canon ng v 0).2.1=fmt (lenT s) (quo (val (canon ng v 0).2.1) (jI (canon ng v 0)).Scale.toNat 0);have q0:quo (val (canon ng v 0).2.1) (jI (canon ng v 0)).Scale.toNat 0=v:=by rw[cs,cv];unfold quo;show v*10^0/10^0=v;simp
  refine⟨⟨?_,?_⟩,cl,?_⟩
  ·show exact (val (canon ng v 0).2.1) (jI (canon ng v 0)).Scale.toNat 0;rw[cs];unfold exact;show _%10^0=0;rw[Nat.pow_zero,Nat.mod_one]
  ·show quo (val (canon ng v 0).2.1) (jI (canon ng v 0)).Scale.toNat 0<_;rw[q0];exact hv
  ·rw[q0];refine zrq (Digs.append.2 ⟨Digs.zeros _,zfw _ _ _⟩) (by rw[List.length_append,List.length_replicate];omega) ?_;rw[qM,cv]
 ·rw[if_neg hr]at h0;exact absurd h0 hr
theorem zmN{N:Nat}(hN:3000<N)(hN2:N≤1000000){s t:Shape}{z z':Nat}(h:MS s z)(h':MS t z')(hz:z≤400)(hz':z'≤400){b:List UInt8}(hb:b.length=z):zdw N (fld s b) t=some (mvV s t b):=by
 have hT:t.Size.toNat=z':=by have:=h'.siz;omega
 have kt:∀l:List UInt8,l.length≤1000→t.Category≠0∨True→∀j:Bool,j=t.Just→
   Jr N t l=some (if t.Category=3 then(txt t.Picture l,0)else(fit l t.Size.toNat t.Just,0)):=by
  intro l hl _ j _;unfold Jr;rw[zb];by_cases h3:t.Category=3
  ·have hk:=ztJ h'.chk h3;rw[if_pos h3,if_pos h3,zlP (by omega) h'.pic _ (fun _=>by have:=h'.siz;omega),if_neg (fun e=>e hk),zc]
  ·rw[if_neg h3,if_neg h3,h'.siz,zeT (by omega) (by omega) (by omega),zc,Int.toNat_natCast]
 have ks:QA N b t=some (if t.Category=3 then(txt t.Picture b,0)else(fit b t.Size.toNat t.Just,0)):=by have:=kt b (by omega) (.inr trivial) _ rfl;exact this
 have k0:∀x:Bool,qZ s t=true→s.Category≠0→x=decide (t.Category=4∨t.Category=5)→Js N x (fld s b) t=some (mvV s t b):=by
  intro x hal h0 hx;obtain⟨d,n1,n2⟩:=zpm hN h h0 hb;unfold Js mvV;rw[if_neg (by rw[hal];decide),if_neg h0];cases x with
  |true=>
   have ht:=of_decide_eq_true hx.symm;rw[cond_true,if_pos ht,n1,zc];by_cases hn:(yc s b).2=0
   ·have hdv:=zkh h h0 hb hn;rw[decide_eq_true hn,if_neg (fun e=>e hn)];dsimp only;rw[Bool.not_true,cond_false,n2 hn,zb];unfold zby;by_cases h5:t.Category=5
    ·rw[if_pos h5,if_pos h5];obtain⟨n,sc,sg,hes⟩:=zfe h'.chk h5;obtain⟨r,f1,f2⟩:=zfQ hN hes h'.chk hdv;rw[hes.nat.1,hes.nat.2,f2,f1,zc];rfl
    ·rw[if_neg h5,if_neg h5];have h4:t.Category=4:=by omega
     obtain⟨n,hns⟩:=zcz h'.chk h4 h'.u0;have g1:=hns.sc1;have g2:=hns.sc2;obtain⟨tr,e1⟩:=zrO hN hdv (s:=t.Scale) (by omega) (by omega);rw[hns.nat,e1,zc];dsimp only;rw[hns.dig,zq8 hN hdv hns.n1 hns.n18 g1 g2,zc];dsimp only;rw[znP hN hns h'.chk h'.pic (zrl (zay _ n t.Scale) hns.n18 g1 g2),zj5 t _ (zay _ n t.Scale) g1 g2,zc];rfl
   ·rw[decide_eq_false hn,if_pos hn,zki h hb hn];rfl
  |false=>
   have ht:=of_decide_eq_false hx.symm;rw[cond_false,if_neg ht];show cond (decide (s.Category=4)) (yT N b _ (fld s b) t) (yT N b false (fld s b) t)=_;rw[zb];by_cases h4:s.Category=4
   ·rw[if_pos h4];unfold yT;rw[zf];by_cases t0:t.Category=0
    ·rw[if_pos t0,ks];have et:qr s t b=(b,0):=by unfold qr;rw[if_pos (.inr t0)]
     rw[et,if_neg (show¬((b,(0:Int)).2≠0)from fun e=>e rfl)]
    ·obtain⟨n,hn⟩:=zcz h.chk h4 h.u0;have hsc:=zlL h4 hal h'.c0 h'.c5 t0 (fun e=>ht (.inl e)) (fun e=>ht (.inr e));have hnum:yc s b=yD s n b:=by unfold yc;rw[if_pos h4,hn.nat]
     rw[if_neg t0,n1,zc];have hsn:=hn.sc1;have h18:=hn.n18;have hdg:=hn.dig;have hlt:lenT s=n+(-s.Scale).toNat:=by unfold lenT;rw[hn.nat]
     have et:qr s t b=if(yD s n b).2≠0 then([],(yD s n b).2)else if qK (yD s n b).1 (lenT s) 0 then(fmt (lenT s) (quo (val (yD s n b).1.Digits) (yD s n b).1.Scale.toNat 0),0)else([],14):=by unfold qr;rw[if_neg (by rintro(e|e);exact e h4;exact t0 e),hn.nat]
     by_cases hg:(yc s b).2=0
     ·have hg':(yD s n b).2=0:=by rw[←hnum];exact hg
      obtain⟨f1,f2,f3⟩:=zpx hn hsc hg';rw[decide_eq_true hg];dsimp only;rw[Bool.not_true,cond_false,n2 hg,hnum];have hl:=(ziF hn hg').2.2.1;have em:s.Digits-s.Scale=((lenT s:Nat):Int):=by omega
      rw[zcE em (by omega) N _ (by omega) (by omega),f3,kt _ (by rw[je];omega) (.inr trivial) _ rfl,et,if_neg (show¬((yD s n b).2≠0)from fun e=>e hg'),if_pos f1,if_neg (show¬((fmt (lenT s) (quo (val (yD s n b).1.Digits) (yD s n b).1.Scale.toNat 0),(0:Int)).2≠0)from fun e=>e rfl)]
     ·have hg':(yD s n b).2≠0:=by rw[←hnum];exact hg
      rw[decide_eq_false hg,et,if_pos hg',if_pos hg',←hnum,zki h hb hg];rfl
   ·rw[if_neg h4];unfold yT;have et:qr s t b=(b,0):=by unfold qr;rw[if_pos (.inl h4)]
    rw[cond_false,ks,et,if_neg (show¬((b,(0:Int)).2≠0)from fun e=>e rfl)]
 unfold zdw;show bnd (Wv N s t) _=_;rw[zha N h.c0 h.c5 h'.c0 h'.c5,zc];cases hal:qZ s t with
 |false=>rw[Bool.not_false,cond_true];unfold mvV;rw[if_pos hal]
 |true=>
  rw[Bool.not_true,cond_false];show cond (decide (s.Category=0)) (bnd (QD N b t.Size false) _) _=_;rw[zb];by_cases h0:s.Category=0
  ·rw[if_pos h0,h'.siz,zeT (by omega) (by omega) (by omega),zc];unfold mvV;rw[if_neg (by rw[hal];decide),if_pos h0,hT]
  ·rw[if_neg h0,zb];by_cases h4:t.Category=4
   ·rw[if_pos h4];exact k0 true hal h0 (decide_eq_true (.inl h4)).symm
   ·rw[if_neg h4];exact k0 _ hal h0 (decide_eq_decide.2 ⟨fun e=>.inr e,fun e=>by rcases e with e|e;exact absurd e h4;exact e⟩)
end Go.Proofs.C06
end
section
set_option maxRecDepth 100000
namespace Go.Proofs.C06
open Go Go.RowKit Go.Vc Go.Am Go.Dg
theorem zpi{N:Nat}(hN:3000<N){s t:Shape}{z z':Nat}(h:MS s z)(h':MS t z'):zeC N s t=some (qZ s t):=by unfold zeC;rw[Z4 (by omega) h.pic,h.chk,zc,decide_eq_true rfl,cond_true,Z4 (by omega) h'.pic,h'.chk,zc,decide_eq_true rfl,cond_true,zcC N h.c0 h.c5 h'.c0 h'.c5,zc]
theorem zsQ{s t:Shape}{z z':Nat}(h:MS s z)(h':MS t z'){b:List UInt8}(hb:b.length=z)(h3:t.Category=3→z'=t.Picture.length)(he:(mvV s t b).2=0):(mvV s t b).1.length=z':=by
 by_cases e3:t.Category=3
 ·unfold mvV at he⊢;split at he
  ·cases he
  ·rename_i h1;rw[if_neg h1];split at he
   ·rename_i h2;rw[if_pos h2];show(fit b t.Size.toNat false).length=z';have:=h'.siz;rw[zdy];omega
   ·rename_i h2;rw[if_neg h2,if_neg (by omega)];rw[if_neg (by omega)]at he;split at he
    ·rename_i hn;exact absurd he hn
    ·rename_i hn;rw[if_neg hn,if_pos e3];show(txt t.Picture _).length=z';rw[znQ,h3 e3]
 ·exact zue h h' hb e3 he
theorem zit(x y:F_64)(hx:FX x)(hy:FX y):∃N,ZJ N x y=some true:=by
 refine⟨4000,?_⟩;have hN:3000<4000:=by decide
 have hN2:4000≤1000000:=by decide
 generalize hNN:(4000:Nat)=N at hN hN2⊢;have hlv:(bnd (zaA N) fun rr=>some rr)=some true:=by rw[←hNN,zir,zc]
 obtain⟨t,z',e1,hm',hz',_,h3,_,_⟩:=zhC hN hy;obtain⟨s,z,b,e2,hm,hz,_,e3,hb⟩:=zuO hN hx;unfold ZJ;rw[e3,zc,e1,zc,zq7 hN hm hm' hb,zc,zmN hN hN2 hm hm' hz hz' hb,zc];show bnd (zeC N s t) (fun rr4=>bnd (Wv N s t) _)=_;rw[zpi hN hm hm',zc,zha N hm.c0 hm.c5 hm'.c0 hm'.c5,zc,decide_eq_true rfl,Bool.not_true,cond_false,decide_eq_true rfl,Bool.not_true,cond_false,decide_eq_true rfl,Bool.not_true,cond_false,decide_eq_true rfl,Bool.not_true,cond_false,zf];by_cases he:(mvV s t b).2=0
 ·have hl:=zsQ hm hm' hb h3 he;rw[if_pos he,decide_eq_true (by rw[hl,hm'.siz]),cond_true,decide_eq_true rfl,cond_true,hlv]
 ·rw[if_neg he,hlv]
end Go.Proofs.C06
end
