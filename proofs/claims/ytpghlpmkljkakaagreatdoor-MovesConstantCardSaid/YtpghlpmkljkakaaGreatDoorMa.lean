/-
  A part of the proof of the laws on moves.
-/
import Derived.Test.YtpghlpmkljkakaaGreatDoorS7
import Derived.Test.YtpghlpmkljkakaaGreatDoorUa
import Derived.Test.YtpghlpmkljkakaaGreatDoorEc
import Derived.Test.YtpghlpmkljkakaaGreatDoorUg
import Derived.Test.YtpghlpmkljkakaaGreatDoorEd
import Derived.Test.YtpghlpmkljkakaaGreatDoorEg
import Derived.Test.YtpghlpmkljkakaaGreatDoorUi
section
set_option maxRecDepth 100000
namespace Go.Proofs.C06
open Go Go.RowKit Go.Vc Go.Am Go.Dg
def fit(b:List UInt8)(n:Nat)(left:Bool):List UInt8:=if left=true then List.replicate (n-b.length) 32++b.drop (b.length-n)else b.take n++List.replicate (n-b.length) 32
theorem znD(b:List UInt8)(n:Nat)(left:Bool):(fit b n left).length=n:=by
 unfold fit;split
 ·rw[List.length_append,List.length_replicate,List.length_drop];omega
 ·rw[List.length_append,List.length_replicate,List.length_take];omega
theorem znu(c:UInt8){m:Nat}(hm:m≤100000000):jl [c] (m:Int)=some (List.replicate m c):=by
 have e:∀k:Nat,Lib.repeatL [c] k=List.replicate k c:=fun k=>by
  induction k with
  |zero=>rfl
  |succ k ih=>rw[Lib.repeatL,ih,List.replicate_succ];rfl
 unfold jl;simp only[Int.toNat_natCast,List.length_cons,List.length_nil];rw[decide_eq_true (show(0:Int)≤(m:Int)by omega),decide_eq_true (show(m:Int)≤9223372036854775807 by omega),decide_eq_true (by omega),e];rfl
theorem zsR{n:Nat}(h:n≤100000000):(VY 1 (n:Int)&&decide ((n:Int)=(n:Int)))=true:=by show((Nat.ble (1*n) 281474976710656&&Nat.ble n 9223372036854775807)&&decide ((n:Int)=(n:Int)))=true;rw[decide_eq_true rfl,Bool.and_true,Bool.and_eq_true,Nat.ble_eq,Nat.ble_eq];omega
theorem zom{l s:List UInt8}(h:s.length=l.length):yF l s 0 l.length=s:=by unfold yF;rw[List.take_zero,List.nil_append,←h,List.take_length,Nat.min_self,Nat.zero_add,h,List.drop_length,List.append_nil]
theorem zrq(N:Nat){n:Nat}(h:n≤1048576):znM N (n:Int)=some 0:=by unfold znM;rw[zb,if_neg (by omega),zb,if_neg (by omega)]
theorem znN(N:Nat){b:List UInt8}(hb:b.length≤100000000){n:Nat}(hn:n≤1048576)(left:Bool):zpa N b (n:Int) left=some (fit b n left,0):=by
 have hrep:yF (List.replicate n (0:UInt8)) (List.replicate n 32) 0 (List.replicate n (0:UInt8)).length=List.replicate n 32:=zom (by simp);unfold zpa;rw[zrq N hn,zc,decide_eq_true rfl,Bool.not_true,cond_false,zsR (by omega),za,znu 32 (by omega),zc,Int.toNat_natCast,hrep];cases left with
 |false=>rw[cond_false];unfold yF fit;rw[if_neg (by decide),List.take_zero,List.nil_append,List.length_replicate,Nat.zero_add,List.drop_replicate];congr 3;rw[show n-min b.length n=n-b.length by omega]
 |true=>
  have e1:jf 0 ((n:Int)-(b.length:Int))=((n-b.length:Nat):Int):=by unfold jf;split<;>omega
  have e2:jf 0 ((b.length:Int)-(n:Int))=((b.length-n:Nat):Int):=by unfold jf;split<;>omega
  rw[cond_true,zg (by omega) (by omega),za,e1,List.length_replicate,zJ.2 ⟨by omega,by omega,Int.le_refl _⟩,za,zg (by omega) (by omega),za,e2,zJ.2 ⟨by omega,by omega,Int.le_refl _⟩,za];have e3:Vc.sub b ((b.length-n:Nat):Int) (b.length:Int)=b.drop (b.length-n):=by unfold Vc.sub;rw[Int.toNat_natCast,Int.toNat_natCast,List.take_length]
  have e4:((n:Int)-((n-b.length:Nat):Int)).toNat=n-(n-b.length):=by omega
  rw[e3,e4,Int.toNat_natCast];unfold yF fit;rw[if_pos rfl,List.take_replicate,Nat.min_eq_left (by omega),List.length_drop,List.drop_replicate,show n-(n-b.length+min (b.length-(b.length-n)) (n-(n-b.length)))=0 by omega,List.take_of_length_le (by rw[List.length_drop];omega)];congr 2;exact List.append_nil _
theorem znO{N:Nat}(s:List UInt8)(hs:s.length≤1000000):∀(k i:Nat),i≤s.length→s.length-i<k→qz N k s (s.length:Int) (i:Int)=some (decide (Digs (s.drop i)))
 |0,i,_,hk=>by omega
 |k+1,i,hi,hk=>by
  show JC N (qz N k) s _ _=_;unfold JC;by_cases h:i<s.length
  ·have hd:s.drop i=s.getD i 0::s.drop (i+1):=by rw[List.getD_eq_getElem?_getD,List.getElem?_eq_getElem h];exact List.drop_eq_getElem_cons h
   rw[decide_eq_true (by omega),cond_true,zn.2 ⟨by omega,by omega⟩,za];have hb:byteAt s (i:Int)=((s.getD i 0).toNat:Int):=rfl;rw[hb];have hdg:ziu N ((s.getD i 0).toNat:Int)=some (decide (48≤(s.getD i 0).toNat∧(s.getD i 0).toNat≤57)):=by
    unfold ziu;rw[zb];by_cases h1:48≤(s.getD i 0).toNat
    ·rw[if_pos (by omega)];congr 1;exact decide_eq_decide.2 ⟨fun h=>⟨h1,by omega⟩,fun h=>by omega⟩
    ·rw[if_neg (by omega),decide_eq_false (fun h=>h1 h.1)]
   rw[hdg,zc,hd];by_cases h1:48≤(s.getD i 0).toNat∧(s.getD i 0).toNat≤57
   ·rw[decide_eq_true h1,Bool.not_true,cond_false,zg (by omega) (by omega),za,show(i:Int)+1=((i+1:Nat):Int)by omega,znO s hs k (i+1) (by omega) (by omega)];congr 1;exact decide_eq_decide.2 ⟨fun h c hc=>by rcases List.mem_cons.1 hc with rfl|hc;exact h1;exact h c hc,fun h c hc=>h c (List.mem_cons_of_mem _ hc)⟩
   ·rw[decide_eq_false h1,Bool.not_false,cond_true,decide_eq_false (fun h=>h1 (h _ List.mem_cons_self))]
  ·have:s.length=i:=by omega
   subst this;rw[decide_eq_false (by omega),cond_false,List.drop_length,decide_eq_true (show Digs []from Digs.nil)]
theorem zaY{N:Nat}{s:List UInt8}(hs:s.length<N)(hs2:s.length≤1000000):Y3 N s=some (decide (s≠[]∧Digs s)):=by
 unfold Y3;rw[zf];by_cases h:s=[]
 ·rw[if_pos h,decide_eq_false (fun e=>e.1 h)]
 ·rw[if_neg h];unfold zb1;have:=znO (N:=N) s hs2 N 0 (Nat.zero_le _) (by omega);rw[show((0:Nat):Int)=0 from rfl]at this;rw[this,zc,List.drop_zero];congr 1;exact decide_eq_decide.2 ⟨fun e=>⟨h,e⟩,fun e=>e.2⟩
end Go.Proofs.C06
end
section
set_option maxRecDepth 100000
namespace Go.Proofs.C06
open Go Go.RowKit Go.Vc Go.Am Go.Dg
def cutK(d:Decimal)(s:Int):Nat:=((d.Scale.toNat:Int)-s).toNat
def QX(d:Decimal)(s:Int):Decimal:=gD d.Neg (val d.Digits/10^cutK d s*10^cutK d s) d.Scale.toNat
theorem zq6{N:Nat}(hN:3000<N){d:Decimal}(hd:VD d){s:Int}(h1: -62≤s)(h2:s≤62):∃t,ziq N d s=some (QX d s,t,0):=by
 obtain⟨x,e,e1,e2,e3⟩:=zio hN hd (s:=s) (by omega) (by omega);have hf:=hd.form;obtain⟨g1,g2,g3,g4,g5,_⟩:=hd;refine⟨decide (val d.Digits%10^(d.Scale-s).toNat=0),?_⟩;rw[e1];by_cases h:d.Scale≤s
 ·obtain⟨rfl,rfl⟩:=e2 h;unfold QX gD;rw[show cutK x s=0 by unfold cutK;omega,Nat.pow_zero,Nat.div_one,Nat.mul_one,hf]
 ·obtain⟨m,hm,hx⟩:=e3 (by omega);have ek:(d.Scale-s).toNat=cutK d s:=by unfold cutK;omega
  rw[ek]at hm;have hv:val (d.Digits.take (d.Digits.length-m)++List.replicate m 48)=val d.Digits/10^cutK d s*10^cutK d s:=by
   rw[yq,(jn g2 (by omega)).1];rcases Nat.lt_or_ge d.Digits.length (cutK d s)with hlt|hge
   ·have hm':m=d.Digits.length:=by omega
    rw[hm',Nat.div_eq_of_lt (jP g2),Nat.div_eq_of_lt (zgo (Nat.le_refl _) g2 (by omega)),Nat.zero_mul,Nat.zero_mul]
   ·have hm':m=cutK d s:=by omega
    rw[hm']
  have e0:(-d.Scale).toNat=0:=by omega
  have hn:nrm d.Neg (d.Digits.take (d.Digits.length-m)++List.replicate m 48) d.Scale=(QX d s,0):=by
   rw[VV,hv,e0,Nat.pow_zero,Nat.mul_one]
   ·rfl
   ·rw[hv,e0,Nat.pow_zero,Nat.mul_one];refine jY (by decide) (zgo (Nat.div_mul_le_self _ _) g2 g3)
   ·exact Nat.le_trans (zF _ _ _) (by omega)
  rw[hn]at hx;cases hx;rfl
theorem znh(v S:Nat){s:Int}(hS:S≤62)(h1: -62≤s):v/10^((S:Int)-s).toNat*10^((S:Int)-s).toNat*10^(62+s).toNat=quo v S s*10^(62+S):=by
 unfold quo;by_cases h:s≤S
 ·rw[show(s-(S:Int)).toNat=0 by omega,Nat.pow_zero,Nat.mul_one,Nat.mul_assoc,←Nat.pow_add,show((S:Int)-s).toNat+(62+s).toNat=62+S by omega]
 ·rw[show((S:Int)-s).toNat=0 by omega,Nat.pow_zero,Nat.div_one,Nat.mul_one,Nat.div_one,Nat.mul_assoc,←Nat.pow_add,show(s-(S:Int)).toNat+(62+S)=(62+s).toNat by omega]
theorem zrc{d:Decimal}(hd:VD d){s:Int}(h1: -62≤s)(h2:s≤62):VD (QX d s)∧exact (val (QX d s).Digits) (QX d s).Scale.toNat s∧quo (val (QX d s).Digits) (QX d s).Scale.toNat s=quo (val d.Digits) d.Scale.toNat s:=by
 obtain⟨g1,g2,g3,g4,g5,_⟩:=hd;have hS62:d.Scale.toNat≤62:=by omega
 have hvd:VD (QX d s):=VD.of (jY (by decide) (zgo (Nat.div_mul_le_self _ _) g2 g3)) (Nat.le_trans (zF _ _ _) (by omega));have hg:=zh3 d.Neg (val d.Digits/10^cutK d s*10^cutK d s) hS62;have hS':(QX d s).Scale.toNat≤62:=by have:=hvd.2.2.2.2.1;omega
 have key:val (QX d s).Digits*10^(62+s).toNat=quo (val d.Digits) d.Scale.toNat s*10^(62+(QX d s).Scale.toNat):=by
  refine Nat.eq_of_mul_eq_mul_right (pow_pos (62+(d.Scale.toNat:Int)).toNat) ?_;have hg':val (QX d s).Digits*10^(62+(d.Scale.toNat:Int)).toNat=val d.Digits/10^cutK d s*10^cutK d s*10^(62+(QX d s).Scale.toNat):=hg;have e1:(62+(d.Scale.toNat:Int)).toNat=62+d.Scale.toNat:=by omega
  rw[Nat.mul_right_comm,hg',Nat.mul_right_comm,Nat.mul_right_comm (quo _ _ _),e1];congr 1;exact znh (val d.Digits) d.Scale.toNat hS62 h1
 exact⟨hvd,((Jt (n:=quo (val d.Digits) d.Scale.toNat s) hS' (by omega) (by omega)).2 ⟨_,XQ _,key⟩).1,zdX hS' (by omega) (by omega) key⟩
def grD(ng:Bool)(q:Nat)(sc:Int):Decimal:=j9 (canon ng (q*10^(-sc).toNat) sc.toNat)
theorem ztd{N:Nat}(hN:3000<N){d:Decimal}(hd:VD d){n:Nat}{sc:Int}(h1:1≤n)(h18:n≤18)(hs1: -18≤sc)(hs:sc≤18)(he:exact (val d.Digits) d.Scale.toNat sc):
  zhC N d (n:Int) sc=some (grD d.Neg (quo (val d.Digits) d.Scale.toNat sc%10^n) sc,0):=by
 obtain⟨t,e1,e2,e3,e4,e5⟩:=(KG hN hd (n:=n) (s:=sc) (by omega) (by omega) (by omega)).1 he;have hl:d.Digits.length≤1000:=by have:=hd.2.2.1;omega
 unfold zhC;rw[zbr hN hl h1 (by omega) (by omega) (by omega),if_pos hd,zc,zf,if_pos rfl,e1,zc];dsimp only;have hin:zk ((t.length:Int)-(n:Int)) (t.length:Int) t.length=true:=by unfold zk;simp<;>omega
 have hv:val (t.drop (t.length-n))=quo (val d.Digits) d.Scale.toNat sc%10^n:=by rw[(jn e2 e4).2,e3]
 have hlt:quo (val d.Digits) d.Scale.toNat sc%10^n<10^n:=Nat.mod_lt _ (pow_pos n);have hne:t.drop (t.length-n)≠[]:=by intro h;have:=congrArg List.length h;rw[List.length_drop,List.length_nil]at this;omega
 have h10:(10:Nat)^n≤10^18:=Nat.pow_le_pow_right (by decide) h18;have hvd:=zj9 (ng:=d.Neg) (q:=quo (val d.Digits) d.Scale.toNat sc%10^n) (sc:=sc) (by omega) hs1 hs;obtain⟨_,_,v3,_,v5,_⟩:=hvd;have v3:(canon d.Neg (quo (val d.Digits) d.Scale.toNat sc%10^n*10^(-sc).toNat) sc.toNat).2.1.length≤62:=v3;rw[Bool.not_true,cond_false,zg (by omega) (by omega),za,hin,za,K0 _ e4,zaS hN _ (e2.drop _) hne (by rw[List.length_drop];omega) (by omega) (by omega),zc,VV,hv]
 ·rfl
 ·rw[hv];exact v3
 ·exact Nat.le_trans (zF _ _ _) (by omega)
def ZG(d:Decimal)(n:Nat)(sc:Int):Nat:=quo (val d.Digits) d.Scale.toNat sc%10^n
def Jj(s:Shape)(n:Nat)(d:Decimal):Bool:=(d.Neg&&decide (ZG d n s.Scale≠0))&&s.Signed
theorem zrd(d:Decimal)(s:Int):(QX d s).Neg=(d.Neg&&decide (val d.Digits/10^cutK d s*10^cutK d s≠0)):=zh2 _ _ _
theorem zr8{d:Decimal}(hS:d.Scale.toNat≤62){n:Nat}{sc:Int}(h1: -62≤sc)(h:ZG d n sc≠0):(QX d sc).Neg=d.Neg:=by
 rw[zrd];have:val d.Digits/10^cutK d sc*10^cutK d sc≠0:=by
  intro e;have hk:=znh (val d.Digits) d.Scale.toNat hS h1;have e':val d.Digits/10^((d.Scale.toNat:Int)-sc).toNat*10^((d.Scale.toNat:Int)-sc).toNat=0:=e;rw[e',Nat.zero_mul]at hk;have:quo (val d.Digits) d.Scale.toNat sc=0:=by
   rcases Nat.mul_eq_zero.1 hk.symm with h|h
   ·exact h
   ·exact absurd h (Nat.ne_of_gt (pow_pos _))
  apply h;unfold ZG;rw[this,Nat.zero_mod]
 rw[decide_eq_true this,Bool.and_true]
theorem zse(ng:Bool)(q:Nat)(sc:Int):(grD ng q sc).Neg=(ng&&decide (q≠0)):=by show(canon ng (q*10^(-sc).toNat) sc.toNat).1=_;rw[Q1];congr 1;exact decide_eq_decide.2 ⟨fun h e=>h (by rw[e,Nat.zero_mul]),fun h=>Nat.mul_ne_zero h (Nat.ne_of_gt (pow_pos _))⟩
theorem zgC{ng ng':Bool}{q:Nat}(sc:Int)(h:q≠0→ng=ng'):grD ng q sc=grD ng' q sc:=by unfold grD;rw[zgT (fun e=>h (fun e0=>e (by rw[e0,Nat.zero_mul])))]
theorem zqr{N:Nat}(hN:3000<N){d:Decimal}(hd:VD d){n:Nat}{sc:Int}(h1:1≤n)(h18:n≤18)(hs1: -18≤sc)(hs:sc≤18):
  zhC N (QX d sc) (n:Int) sc=some (grD d.Neg (ZG d n sc) sc,0):=by
 obtain⟨c1,c2,c3⟩:=zrc hd (s:=sc) (by omega) (by omega);rw[ztd hN c1 h1 h18 hs1 hs c2,c3];have e:grD (QX d sc).Neg (ZG d n sc) sc=grD d.Neg (ZG d n sc) sc:=zgC sc fun h=>zr8 (by have:=hd.2.2.2.2.1;omega) (by omega) h
 show some (grD (QX d sc).Neg (ZG d n sc) sc,(0:Int))=_;rw[e]
theorem zda(d:Decimal)(n:Nat)(sc:Int):ZG d n sc<10^n:=Nat.mod_lt _ (pow_pos n)
theorem ztq{ng:Bool}{q n:Nat}{sc:Int}(hq:q<10^n)(hn:n≤18)(h1: -18≤sc)(h2:sc≤18):VD (grD ng q sc):=by have h10:(10:Nat)^n≤10^18:=Nat.pow_le_pow_right (by decide) hn;exact zj9 (by omega) h1 h2
theorem zsd(ng:Bool){q n:Nat}{sc:Int}(hq:q<10^n)(h1: -18≤sc)(h2:sc≤18):qb (grD ng q sc) n sc∧quo (val (grD ng q sc).Digits) (grD ng q sc).Scale.toNat sc=q:=by refine⟨(zoJ ng q n h1 h2).2 hq,?_⟩;have hg:=ze8 ng q (sc:=sc) (by omega);have hcs:=zF ng (q*10^(-sc).toNat) sc.toNat;show quo (val (canon ng (q*10^(-sc).toNat) sc.toNat).2.1) (((canon ng (q*10^(-sc).toNat) sc.toNat).2.2:Int)).toNat sc=q;rw[Int.toNat_natCast];exact zdX (by omega) (by omega) (by omega) hg
theorem zp5(s:Shape){n q:Nat}(ng:Bool)(hq:q<10^n)(h1: -18≤s.Scale)(h2:s.Scale≤18):zol s n (grD ng q s.Scale)=(wr s n ((ng&&decide (q≠0))&&s.Signed) (fmt n q),0):=by obtain⟨f1,f2⟩:=zsd ng hq h1 h2;unfold zol;rw[if_pos f1,f2,zse]
theorem zr6{N:Nat}(hN:3000<N){s:Shape}{n:Nat}(h:NS s n)(hc:chkV s=0)(hp:s.Picture.length≤400){d:Decimal}(hd:VD d):
  zr7 N d s=some (wr s n (Jj s n d) (fmt n (ZG d n s.Scale)),0):=by
 have h1:=h.sc1;have h2:=h.sc2;obtain⟨t,e1⟩:=zq6 hN hd (s:=s.Scale) (by omega) (by omega);unfold zr7;rw[e1,zc];dsimp only;rw[decide_eq_true rfl,Bool.not_true,cond_false,h.dig,zqr hN hd h.n1 h.n18 h1 h2,zc];dsimp only;rw[decide_eq_true rfl,Bool.not_true,cond_false,zm7 hN h hc hp (ztq (zda d n s.Scale) h.n18 h1 h2),zp5 s d.Neg (zda d n s.Scale) h1 h2,zc];rfl
end Go.Proofs.C06
end
section
set_option maxRecDepth 100000
namespace Go.Proofs.C06
open Go Go.RowKit Go.Vc Go.Am Go.Dg
structure MS(s:Shape)(z:Nat):Prop where
 chk:chkV s=0
 pic:s.Picture.length≤400
 siz:s.Size=(z:Int)
 c0:0≤s.Category
 c5:s.Category≤5
 u0:0≤s.Usage
 zle:z≤1048576
 zl:s.Category≠0→z≤400
theorem zkM{s:Shape}(h:chkV s=0):yE s=0:=by
 unfold chkV at h;by_cases hE:yE s=0
 ·exact hE
 ·rw[if_pos hE]at h;exact absurd h hE
theorem zjF{s:Shape}(h:chkV s=0)(hp:s.Picture.length≤400)(hc:0≤s.Category)(hu:0≤s.Usage):∃z,MS s z:=by
 have hE:=zkM h;have hE':=hE;unfold yE at hE;split at hE
 ·cases hE
 ·rename_i h1;split at hE
  ·cases hE
  ·rename_i h2;split at hE
   ·cases hE
   ·rename_i h3;by_cases h0:s.Category=0
    ·refine⟨s.Size.toNat,h,hp,by omega,hc,by omega,hu,by omega,fun e=>absurd h0 e⟩
    ·have hs:=zrQ h h0;have hz:0≤sizeV s∧sizeV s≤400:=by
      unfold sizeV;rw[if_neg h0];split
      ·have:szN s.Picture≤s.Picture.length:=by unfold szN;omega
       omega
      ·repeat' split
       all_goals omega
     refine⟨s.Size.toNat,h,hp,by omega,hc,by omega,hu,by omega,fun _=>by omega⟩
def alw(a b:Int):Bool:=decide ((bits .and .u8 ((Am.zeH (atV [.int .u8 63,.int .u8 15,.int .u8 63,.int .u8 15,.int .u8 61,.int .u8 61] a))/2^b.toNat) 1)=1)
def ZA(s t:Shape):Bool:=if s.Category=4∧0<s.Scale∧(t.Category=2∨t.Category=3)then false else alw s.Category t.Category
theorem zjQ(N:Nat){s t:Shape}(h1:0≤s.Category)(h2:s.Category≤5)(h3:0≤t.Category)(h4:t.Category≤5):XP N s t=some (ZA s t):=by
 have k1:qa N s t=some (alw s.Category t.Category):=by
  unfold qa;have hn:(ze t.Category&&Nat.ble t.Category.toNat 8)=true:=by unfold ze;rw[decide_eq_true h3,Bool.true_and,Nat.ble_eq];omega
  rw[zn.2 ⟨h1,by omega⟩,za,hn,za];rfl
 have k0:∀x:Bool,x=decide (t.Category=2∨t.Category=3)→Zh N x s t=some (ZA s t):=by
  intro x hx;unfold Zh ZA;rw[k1,zb];by_cases e4:s.Category=4
  ·rw[if_pos e4,zb];by_cases es:0<s.Scale
   ·rw[if_pos es];cases x with
    |true=>rw[cond_true,if_pos ⟨e4,es,of_decide_eq_true hx.symm⟩]
    |false=>rw[cond_false,if_neg (fun e=>of_decide_eq_false hx.symm e.2.2)]
   ·rw[if_neg es,if_neg (fun e=>es e.2.1)]
  ·rw[if_neg e4,if_neg (fun e=>e4 e.1)]
 unfold XP;rw[zb];by_cases e2:t.Category=2
 ·rw[if_pos e2];exact k0 _ (decide_eq_true (.inl e2)).symm
 ·rw[if_neg e2];exact k0 _ (decide_eq_decide.2 ⟨fun e=>.inr e,fun e=>by rcases e with e|e;exact absurd e e2;exact e⟩)
theorem zrz{s t:Shape}(h4:s.Category=4)(h:ZA s t=true)(h1:0≤t.Category)(h2:t.Category≤5)(ht:t.Category≠0)(ht4:t.Category≠4)(ht5:t.Category≠5):s.Scale≤0:=by
 unfold ZA at h;split at h
 ·cases h
 ·rename_i hn;have:t.Category=1∨t.Category=2∨t.Category=3:=by omega
  rcases this with e|e|e
  ·rw[h4,e]at h;exact absurd h (by decide)
  ·apply Classical.byContradiction;intro hs;exact hn ⟨h4,by omega,.inl e⟩
  ·apply Classical.byContradiction;intro hs;exact hn ⟨h4,by omega,.inr e⟩
def Vl(s:Shape)(b:List UInt8):Decimal×Int:=if s.Category=4 then Vb s s.Digits.toNat b else if s.Category=5 then zgY s s.Digits.toNat s.Scale.toNat b else if(Lib.trimS b [32]≠[]∧Digs (Lib.trimS b [32]))∧(Lib.trimS b [32]).length≤62 then nrm false (Lib.trimS b [32]) 0 else(zdo,15)
theorem NS.nat{s:Shape}{n:Nat}(h:NS s n):s.Digits.toNat=n:=by have:=h.dig;omega
theorem ES.nat{s:Shape}{n sc:Nat}{sg:Bool}(h:ES s n sc sg):s.Digits.toNat=n∧s.Scale.toNat=sc:=by have:=h.dig;have:=h.scl;omega
theorem zpI(b cs:List UInt8):(Lib.trimS b cs).length≤b.length:=by
 have h:∀(p:UInt8→Bool)(l:List UInt8),(l.dropWhile p).length≤l.length:=fun p l=>(List.dropWhile_sublist p).length_le
 unfold Lib.trimS Lib.trimRightS Lib.trimLeftS;refine Nat.le_trans (h _ _) ?_;rw[List.length_reverse];refine Nat.le_trans (h _ _) ?_;rw[List.length_reverse];exact Nat.le_refl _
theorem zr2{l:List UInt8}(hd:Digs l)(hl:l.length≤62)(h0:l≠[]):∃d,nrm false l 0=(d,0)∧VD d:=by
 have h1:1≤l.length:=by cases l with|nil=>exact absurd rfl h0|cons _ _=>simp
 have hv:val l<10^l.length:=jP hd;have c1:(canon false (val l*10^(-(0:Int)).toNat) (0:Int).toNat).2.1.length≤62:=by rw[show(-(0:Int)).toNat=0 from rfl,Nat.pow_zero,Nat.mul_one];exact Nat.le_trans (jY h1 hv) hl
 have c2:(canon false (val l*10^(-(0:Int)).toNat) (0:Int).toNat).2.2≤62:=Nat.le_trans (zF _ _ _) (by decide);exact⟨_,VV c1 c2,VD.of c1 c2⟩
theorem znz{s:Shape}{n:Nat}(h:NS s n){b:List UInt8}(h0:(Vb s n b).2=0):VD (Vb s n b).1:=by
 unfold Vb at h0⊢;by_cases hr:(Yu s n b).2=0
 ·rw[if_pos hr];obtain⟨r1,r2,r3⟩:=zdV h hr;rw[r3];obtain⟨d1,d2⟩:=zng h r1 r2;exact (zhN h d1 d2).1
 ·rw[if_neg hr]at h0;exact absurd h0 hr
theorem zrw{s:Shape}{n sc:Nat}{sg:Bool}(h:ES s n sc sg){b:List UInt8}(h0:(zgY s n sc b).2=0):VD (zgY s n sc b).1:=by
 have h18:=h.n18;have hsc:=h.scn;have hq:=(zkV h b).2.2;unfold zgY at h0⊢;split at h0
 ·cases h0
 ·rename_i e1;rw[if_neg e1];split at h0
  ·rename_i e2;rw[if_pos e2];exact zqH (n:=n) (by omega) h.n1 hq (by omega)
  ·rename_i e2;rw[if_neg e2];split at h0
   ·rename_i e3;rw[if_pos e3];exact zqH (n:=n) (by omega) h.n1 hq (by omega)
   ·cases h0
theorem zhp{s:Shape}{n:Nat}(h:NS s n):szV s n≤300:=by
 have:=h.n18;unfold szV binW
 repeat' split
 all_goals omega
theorem MS.sz4{s:Shape}{z n:Nat}(h:MS s z)(hn:NS s n):z=szV s n:=by have h1:=h.siz;have h2:=hn.size;omega
theorem zlX{N:Nat}(hN:3000<N){s:Shape}{z:Nat}(h:MS s z)(h0:s.Category≠0){b:List UInt8}(hb:b.length=z):
  zc9 N (fld s b)=some (Vl s b)∧((Vl s b).2=0→VD (Vl s b).1):=by
 have hz:=h.zl h0;unfold zc9 Vl;show cond (decide (s.Category=4)) _ (cond (decide (s.Category=5)) _ _)=_∧_;rw[zb];by_cases h4:s.Category=4
 ·rw[if_pos h4,if_pos h4];obtain⟨n,hn⟩:=znn h.chk h4 h.u0;have hz:=zhp hn;rw[←h.sz4 hn]at hz;rw[hn.nat,zhm hN hn h.chk h.pic (by omega),zc];exact⟨rfl,znz hn⟩
 ·rw[if_neg h4,if_neg h4,zb];by_cases h5:s.Category=5
  ·rw[if_pos h5,if_pos h5];obtain⟨n,sc,sg,hn⟩:=znF h.chk h5;rw[hn.nat.1,hn.nat.2];have:=zrE hN hn h.chk b;rw[show fld s b=zt7 s b from rfl,this,zc];exact⟨rfl,zrw hn⟩
  ·rw[if_neg h5,if_neg h5];have hl:=zpI b [32];show bnd (Zj b [32]) _=_∧_;rw[zao (by omega) (by decide) (by decide),zc,zaY (by omega) (by omega),zc,zf];by_cases hd:Lib.trimS b [32]≠[]∧Digs (Lib.trimS b [32])
   ·rw[if_pos hd,zb];by_cases h62:(Lib.trimS b [32]).length≤62
    ·obtain⟨d,e1,e2⟩:=zr2 hd.2 h62 hd.1;rw[if_neg (by omega),if_pos ⟨hd,h62⟩,zaS hN false hd.2 hd.1 (by omega) (by decide) (by decide),zc,e1];exact⟨rfl,fun _=>e2⟩
    ·rw[if_pos (by omega),if_neg (fun e=>h62 e.2)];exact⟨rfl,fun e=>by cases e⟩
   ·rw[if_neg hd,if_neg (fun e=>hd e.1)];exact⟨rfl,fun e=>by cases e⟩
def zlu(t:Shape)(d:Decimal):List UInt8×Int:=if t.Category=5 then((edT t t.Digits.toNat d.Neg (zfJ d t.Digits.toNat t.Scale.toNat)).getD [],0)else(wr t t.Digits.toNat (Jj t t.Digits.toNat d) (fmt t.Digits.toNat (ZG d t.Digits.toNat t.Scale)),0)
def lenT(s:Shape):Nat:=s.Digits.toNat+(-s.Scale).toNat
def J7(s t:Shape)(b:List UInt8):List UInt8×Int:=if s.Category≠4∨t.Category=0 then(b,0)else if(Vb s s.Digits.toNat b).2≠0 then([],(Vb s s.Digits.toNat b).2)else if qb (Vb s s.Digits.toNat b).1 (lenT s) 0 then(fmt (lenT s) (quo (val (Vb s s.Digits.toNat b).1.Digits) (Vb s s.Digits.toNat b).1.Scale.toNat 0),0)else([],14)
theorem zqp{N:Nat}(hN:3000<N){s t:Shape}{z:Nat}(h:MS s z)(hsc:s.Category=4→t.Category≠0→s.Scale≤0){b:List UInt8}(hb:b.length=z):zns N (fld s b) t=some (J7 s t b)∧(J7 s t b).1.length≤1048576:=by
 have hz:=h.zle;unfold zns J7;show cond (!decide (s.Category=4)) _ _=_∧_;rw[zf];by_cases h4:s.Category=4
 ·rw[if_pos h4,zb];by_cases t0:t.Category=0
  ·rw[if_pos t0,if_pos (.inr t0)];exact⟨rfl,by rw[hb];exact hz⟩
  ·rw[if_neg t0,if_neg (by rintro(e|e);exact e h4;exact t0 e)];obtain⟨n,hn⟩:=znn h.chk h4 h.u0;have hz3:=zhp hn;rw[←h.sz4 hn]at hz3;rw[hn.nat,zhm hN hn h.chk h.pic (by omega),zc,zf];by_cases hg:(Vb s n b).2=0
   ·have hs0:=hsc h4 t0;have hs1:=hn.sc1;have h18:=hn.n18;have h1:=hn.n1;have hdg:=hn.dig;have em:jf s.Scale 0=0:=by unfold jf;split<;>omega
    have el:(s.Digits-s.Scale)+jf s.Scale 0=((lenT s:Nat):Int):=by unfold lenT;rw[em];omega
    have elt:lenT s=n+(-s.Scale).toNat:=by unfold lenT;rw[hn.nat]
    rw[if_pos hg,if_neg (fun e=>e hg)];show chk (inKb .i64 (s.Digits-s.Scale)) (chk (inKb .i64 ((s.Digits-s.Scale)+jf s.Scale 0)) (bnd (JL N (Vb s n b).1 ((s.Digits-s.Scale)+jf s.Scale 0) 0) _))=_∧_;rw[el,zg (by omega) (by omega),za,zg (by omega) (by omega),za,VQ hN (znz hn hg) (by omega) (by omega) (by decide) (by decide),zc];refine⟨rfl,?_⟩;split
    ·show(fmt _ _).length≤_;rw[jG];omega
    ·show([]:List UInt8).length≤_;decide
   ·rw[if_neg hg,if_pos hg];exact⟨rfl,Nat.zero_le _⟩
 ·rw[if_neg h4,if_pos (.inl h4)];exact⟨rfl,by rw[hb];exact hz⟩
def mvV(s t:Shape)(b:List UInt8):List UInt8×Int:=if ZA s t=false then([],12)else if s.Category=0 then(fit b t.Size.toNat false,0)else if t.Category=4∨t.Category=5 then(if(Vl s b).2≠0 then([],(Vl s b).2)else zlu t (Vl s b).1)else if(J7 s t b).2≠0 then([],(J7 s t b).2)else if t.Category=3 then(txt t.Picture (J7 s t b).1,0)else(fit (J7 s t b).1 t.Size.toNat t.Just,0)
theorem zsT{t:Shape}(h:chkV t=0)(h3:t.Category=3):Xh t 3=0:=by unfold Xh;rw[if_neg (fun e=>e h),if_neg (fun e=>e h3)]
theorem zai{N:Nat}(hN:3000<N){s t:Shape}{z z':Nat}(h:MS s z)(h':MS t z'){b:List UInt8}(hb:b.length=z):ZB N (fld s b) t=some (mvV s t b):=by
 have hz:=h.zle;have hz':=h'.zle;have hS:s.Size.toNat=z:=by have:=h.siz;omega
 have hT:t.Size.toNat=z':=by have:=h'.siz;omega
 have k1:∀x:Bool,ZA s t=true→s.Category≠0→x=decide (t.Category=4∨t.Category=5)→XO N x (fld s b) t=some (mvV s t b):=by
  intro x hal h0 hx;unfold XO mvV;rw[if_neg (by rw[hal];decide),if_neg h0];cases x with
  |true=>
   have ht:=of_decide_eq_true hx.symm;obtain⟨e1,e2⟩:=zlX hN h h0 hb;rw[cond_true,if_pos ht,e1,zc,zf];by_cases hn:(Vl s b).2=0
   ·rw[if_pos hn,if_neg (fun e=>e hn),zb];unfold zlu;by_cases h5:t.Category=5
    ·rw[if_pos h5,if_pos h5];obtain⟨n,sc,sg,hes⟩:=znF h'.chk h5;obtain⟨r,f1,f2⟩:=zk9 hN hes h'.chk (e2 hn);rw[hes.nat.1,hes.nat.2,f2,f1,zc];rfl
    ·rw[if_neg h5,if_neg h5];have h4:t.Category=4:=by omega
     obtain⟨n,hns⟩:=znn h'.chk h4 h'.u0;rw[hns.nat,zr6 hN hns h'.chk h'.pic (e2 hn),zc]
   ·rw[if_neg hn,if_pos hn]
  |false=>
   have ht:=of_decide_eq_false hx.symm;obtain⟨e1,e2⟩:=zqp (t:=t) hN h (fun h4 t0=>zrz h4 hal h'.c0 h'.c5 t0 (fun e=>ht (.inl e)) (fun e=>ht (.inr e))) hb;rw[cond_false,if_neg ht,e1,zc,zf];by_cases hn:(J7 s t b).2=0
   ·rw[if_pos hn,if_neg (fun e=>e hn),zb];by_cases h3:t.Category=3
    ·have hk:=zsT h'.chk h3;have hzz:=h'.zl (by omega);rw[if_pos h3,if_pos h3,zk7 (by omega) h'.pic _ (fun _=>by have:=h'.siz;omega),if_neg (fun e=>e hk),zc]
    ·rw[if_neg h3,if_neg h3,h'.siz,znN N (by omega) hz',zc,Int.toNat_natCast]
   ·rw[if_neg hn,if_pos hn]
 have k0:Ji N false (fld s b) t=some (mvV s t b):=by
  unfold Ji;rw[cond_false];show cond (!decide ((b.length:Int)=s.Size)) _ (bnd (XP N s t) _)=_;rw[decide_eq_true (by rw[hb,h.siz]),Bool.not_true,cond_false,zjQ N h.c0 h.c5 h'.c0 h'.c5,zc];cases hal:ZA s t with
  |false=>rw[Bool.not_false,cond_true];unfold mvV;rw[if_pos hal]
  |true=>
   rw[Bool.not_true,cond_false];show cond (decide (s.Category=0)) (bnd (zpa N b t.Size false) _) _=_;rw[zb];by_cases h0:s.Category=0
   ·rw[if_pos h0,h'.siz,znN N (by omega) hz',zc];unfold mvV;rw[if_neg (by rw[hal];decide),if_pos h0,hT]
   ·rw[if_neg h0,zb];by_cases h4:t.Category=4
    ·rw[if_pos h4];exact k1 true hal h0 (decide_eq_true (.inl h4)).symm
    ·rw[if_neg h4];exact k1 _ hal h0 (decide_eq_decide.2 ⟨fun e=>.inr e,fun e=>by rcases e with e|e;exact absurd e h4;exact e⟩)
 unfold ZB;show bnd (Kz N s) _=_;rw[qg (by omega) h.pic,h.chk,zc,decide_eq_true rfl,Bool.not_true,cond_false,qg (by omega) h'.pic,h'.chk,zc,decide_eq_true rfl,Bool.not_true];exact k0
end Go.Proofs.C06
end
section
set_option maxRecDepth 100000
namespace Go.Proofs.C06
open Go Go.RowKit Go.Vc Go.Am Go.Dg
theorem Qr:j8 4000=some true:=by kernel_rfl
def tx(c:Int)(p:List UInt8)(just:Bool):Shape:=Shape.mk c 0 p 0 0 false false false just false (p.length:Int)
theorem znw{c:Int}{p:List UInt8}(hpar:parS p=(tx c p false,0))(hne:p≠[])(hl:p.length≤80)(hsym:∀x∈p,syms.contains x=true)(hc:1≤c∧c≤3)(hsz:(tx c p false).Size=sizeV (tx c p false)):Good p (tx c p false) where
 par:=hpar
 ne:=hne
 len:=hl
 sym:=hsym
 pic:=rfl
 cat:=by show 1≤c∧c≤5;omega
 use:=rfl
 dig:=by show(0:Int)≤18;decide
 num:=fun h=>by have h:c=4:=h;omega
 sca:=by show(0:Int)≤18;decide
 led:=rfl
 sep:=rfl
 jus:=rfl
 bla:=rfl
 siz:=hsz
theorem zeN{m:Nat}(h1:1≤m)(h2:m≤80):Good (List.replicate m 65) (tx 1 (List.replicate m 65) false)∧Good (List.replicate m 88) (tx 2 (List.replicate m 88) false):=by
 have hl:∀c:UInt8,(List.replicate m c).length=m:=fun c=>List.length_replicate
 have hne:∀c:UInt8,List.replicate m c≠[]:=fun c e=>by have:=congrArg List.length e;rw[hl]at this;simp at this;omega
 have hsz:∀(c:UInt8)(k:Int),c≠86→(k=1∨k=2)→(tx k (List.replicate m c) false).Size=sizeV (tx k (List.replicate m c) false):=fun c k hc hk=>by
  unfold sizeV;rw[if_neg (show¬(tx k (List.replicate m c) false).Category=0 from fun e=>by have e:k=0:=e;omega),if_pos (show(tx k (List.replicate m c) false).Category≠4 from fun e=>by have e:k=4:=e;omega)];unfold szN;show((List.replicate m c).length:Int)=(((List.replicate m c).length-(List.replicate m c).count 86:Nat):Int)
  rw[List.count_eq_zero.2 (fun hm=>hc (List.eq_of_mem_replicate hm).symm),Nat.sub_zero]
 have cn:∀(set:List UInt8)(c:UInt8),set.contains c=true→cnt set (List.replicate m c)=(List.replicate m c).length:=fun set c h=>zbX fun x hx=>by rw[List.eq_of_mem_replicate hx];exact h
 refine⟨znw ?_ (hne _) (by rw[hl];exact h2) (fun c hc=>by rw[List.eq_of_mem_replicate hc];decide) (by decide) (hsz 65 1 (by decide) (.inl rfl)),znw ?_ (hne _) (by rw[hl];exact h2) (fun c hc=>by rw[List.eq_of_mem_replicate hc];decide) (by decide) (hsz 88 2 (by decide) (.inr rfl))⟩
 ·unfold parS zbi;rw[if_pos (cn [65] 65 (by decide))];rfl
 ·unfold parS zbi;have k1:¬cnt [65] (List.replicate m (88:UInt8))=(List.replicate m (88:UInt8)).length:=by
   obtain⟨k,rfl⟩:∃k,m=k+1:=⟨m-1,by omega⟩
   rw[List.replicate_succ,jK,if_neg (by decide),List.length_cons];omega
  have k2:¬(List.replicate m (88:UInt8)).countP zoF=0:=by
   obtain⟨k,rfl⟩:∃k,m=k+1:=⟨m-1,by omega⟩
   rw[List.replicate_succ,List.countP_cons_of_pos (by rfl)];omega
  rw[if_neg k1,if_neg k2,if_pos (cn [65,88,57] 88 (by decide))];rfl
theorem zm8{c:Int}{p:List UInt8}(hg:Good p (tx c p false))(hc:c=1∨c=2)(just:Bool):MS (tx c p just) p.length:=by
 have hpar:=zgD hg;have hl:=hg.len;have hs:(p.length:Int)=sizeV (tx c p false):=hg.siz;have hs':(p.length:Int)=sizeV (tx c p just):=hs;refine⟨?_,by show p.length≤400;omega,rfl,by show 0≤c;omega,by show c≤5;omega,by show(0:Int)≤0;decide,by omega,fun _=>by omega⟩;have e1:yE (tx c p just)=0:=by unfold yE tx;dsimp only;rw[if_neg (by omega),if_neg (by omega),if_neg (by omega)]
 unfold chkV;rw[if_neg (fun k=>k e1),if_neg (show¬(tx c p just).Category=0 from fun e=>by have e:c=0:=e;omega)];unfold zcM;rw[show(tx c p just).Picture=p from rfl,hpar];unfold Xc;have n4:c≠4:=by omega
 simp only[tx,ne_eq,not_true_eq_false,if_false,or_self,decide_false,Bool.false_eq_true,false_and,not_false_eq_true,n4];rw[if_neg (by rintro⟨_,e1,e2⟩;omega)];exact if_pos hs'
def gr(n:Nat):Shape:=Shape.mk 0 0 [] 0 0 false false false false false (n:Int)
theorem ztp{n:Nat}(h:n≤1000):MS (gr n) n:=by
 refine⟨?_,Nat.zero_le _,rfl,Int.le_refl 0,show(0:Int)≤5 by decide,Int.le_refl 0,by omega,fun e=>absurd rfl e⟩;have e1:yE (gr n)=0:=by unfold yE gr;dsimp only;rw[if_neg (by omega),if_neg (by omega),if_neg (by omega)]
 have e2:zco (gr n):=⟨rfl,rfl,rfl,rfl,rfl,rfl,rfl,rfl,rfl⟩
 unfold chkV;rw[if_neg (fun k=>k e1),if_pos (show(gr n).Category=0 from rfl),if_pos e2]
theorem zuo(l:List UInt8):shT (3::l)=tx 3 (picT (3::l)) false:=by
 unfold shT ze6;rw[if_neg]
 ·rfl
 ·intro h;have:=ziA h 66 (by unfold picT;simp[sy6]);exact absurd this (by decide)
theorem zuc{l:List UInt8}(hl:l.length≤19):MS (tx 3 (picT (3::l)) false) (picT (3::l)).length:=by have hg:=zoK (l:=3::l) (by simpa using hl);rw[zuo]at hg;have:=hg.len;exact⟨zka hg,by show(picT _).length≤400;omega,rfl,show(0:Int)≤3 by decide,show(3:Int)≤5 by decide,Int.le_refl 0,by omega,fun _=>by omega⟩
structure FX(x:F_64):Prop where
 k0:0≤x.Kind
 d0:0≤x.Number_Digits
 d1:x.Number_Digits≤255
 p0:0≤x.Number_Point
 p1:x.Number_Point≤255
 f0:0≤x.Number_Form
 f1:x.Number_Form≤255
 s0:0≤x.Edited_Sign
 o0:0≤x.Edited_Dollar
 w0:0≤x.Edited_Whole
 m0:0≤x.Edited_Many
 n0:0≤x.Edited_Nines
 t0:0≤x.Edited_Point
 a0:0≤x.Edited_Part
 ins:∀v∈x.Edited_Insert,0≤v∧v≤65535
def fF(x:F_64):F:=F.mk x.Number_Digits x.Number_Point x.Number_Form x.Number_Neg x.Number_Value
def fE(x:F_64):E:=E.mk x.Edited_Sign x.Edited_Dollar x.Edited_Whole x.Edited_Many x.Edited_Nines x.Edited_Point x.Edited_Part x.Edited_Insert x.Edited_Blank
theorem zba{N:Nat}{sym:UInt8}{x:F_64}{b1:Shape}{c:Int}{m:Nat}(hm:m≤1000):∀(k i:Nat),i≤m→m-i<k→
  Y6 N k [sym] (i:Int) x b1 (Shape.mk c 0 (List.replicate i sym) 0 0 false false false false false (m:Int))=some (tx c (List.replicate m sym) x.Just)
 |0,i,_,hk=>by omega
 |k+1,i,hi,hk=>by
  show Ku N (Y6 N k) [sym] _ x b1 _=_;unfold Ku;dsimp only;rw[zb];by_cases h:i<m
  ·rw[if_pos (by omega),j5 (by simp;omega),za,zg (by omega) (by omega),za,←List.replicate_succ',show(i:Int)+1=((i+1:Nat):Int)by omega];exact zba hm k (i+1) (by omega) (by omega)
  ·have:i=m:=by omega
   subst this;rw[if_neg (by omega)];unfold tx;rw[List.length_replicate]
theorem zs9{c:UInt8}:atS ([[88],[65],[57],[66],[48],[47]]:List (List UInt8)) ((c.toNat:Int)%6)=[sy6 c]:=by
 unfold atS sy6;rw[show((c.toNat:Int)%6).toNat=c.toNat%6 by omega];have h:c.toNat%6<6:=Nat.mod_lt _ (by decide);generalize c.toNat%6=j at h;rcases j with _|_|_|_|_|_|j
 all_goals first|rfl|omega
theorem za9{N:Nat}{x:F_64}{b1:Shape}{n:Nat}(hn:n≤x.Text.length)(h24:n≤24)(z:Int):∀(k i:Nat),i≤min n 12→min n 12-i<k→
  Y5 N k (n:Int) (i:Int) x b1 (Shape.mk 3 0 (picT (3::x.Text.take i)) 0 0 false false false false false z)=some (tx 3 (picT (3::x.Text.take (min n 12))) false)
 |0,i,_,hk=>by omega
 |k+1,i,hi,hk=>by
  show Kt N (Y5 N k) _ _ x b1 _=_;unfold Kt;dsimp only;have hlen:(picT (3::x.Text.take i)).length≤100:=by unfold picT;simp;omega
  rw[zb];by_cases h:i<min n 12
  ·have hit:i<x.Text.length:=by omega
   have hnn:(ze (byteAt x.Text (i:Int))&&decide ((0:Int)<6))=true:=by show(ze (((x.Text.getD i 0).toNat:Nat):Int)&&_)=true;unfold ze;rw[decide_eq_true (by omega)];rfl
   have hb:byteAt x.Text (i:Int)=(((x.Text.getD i 0).toNat:Nat):Int):=rfl;rw[if_pos (by omega),zb,if_pos (by omega),zn.2 ⟨by omega,by omega⟩,za];have hnn':(ze (byteAt x.Text (i:Int))&&decide (0<6))=true:=hnn;rw[hnn',za,hb,zn.2 ⟨by omega,by show _<((6:Nat):Int);omega⟩,za,za,zs9,j5 (by simp;omega),za,zg (by omega) (by omega),za];have e:picT (3::x.Text.take i)++[sy6 (x.Text.getD i 0)]=picT (3::x.Text.take (i+1)):=by rw[zlq hit];unfold picT;simp
   rw[e,show(i:Int)+1=((i+1:Nat):Int)by omega];exact za9 hn h24 z k (i+1) (by omega) (by omega)
  ·have:i=min n 12:=by omega
   subst this;by_cases h2:(((min n 12:Nat):Nat):Int)<(n:Int)
   ·rw[if_pos h2,zb,if_neg (by omega)];rfl
   ·rw[if_neg h2];rfl
theorem zqo(a b:Nat):K8 (a:Int) (b:Int)=((min a b:Nat):Int):=by unfold K8;split<;>omega
theorem zpn{N:Nat}(hN:3000<N){x:F_64}(hx:FX x):∃s z,ziF N x=some s∧MS s z∧z≤400∧s.Category=x.Kind%6∧(s.Category=3→z=s.Picture.length)∧
  (s.Category=4→Zx N (fF x)=some s)∧(s.Category=5→QQ N (fE x)=some s):=by
 have hk:=hx.k0;obtain⟨k,hk6⟩:=Qp (k:=6) hk (by decide);have hlt:k<6:=by omega
 have hn:K8 ((x.Text).length:Int) 24=((min x.Text.length 24:Nat):Int):=zqo _ 24;obtain⟨n,hn'⟩:∃n,n=min x.Text.length 24:=⟨_,rfl⟩
 rw[←hn']at hn;have hn24:n≤24:=by omega
 have hm:jf (n:Int) 1=((max n 1:Nat):Int):=by unfold jf;split<;>omega
 have key:∀t:Bool,t=decide ((k:Int)=1∨(k:Int)=2)→∃s z,Y8 N (n:Int) (k:Int) t x z0 (Shape.mk (k:Int) 0 [] 0 0 false false false false false (n:Int))=some s∧MS s z∧z≤400∧s.Category=(k:Int)∧(s.Category=3→z=s.Picture.length)∧
   (s.Category=4→Zx N (fF x)=some s)∧(s.Category=5→QQ N (fE x)=some s):=by
  intro t ht;unfold Y8;dsimp only;have txt:∀(c:Int)(sym:UInt8),(c=1∧sym=65∨c=2∧sym=88)→∃s z,Y7 N (n:Int) [sym] x z0 (Shape.mk c 0 [] 0 0 false false false false false (n:Int))=some s∧MS s z∧z≤400∧s.Category=c∧(s.Category=3→z=s.Picture.length)∧
    (s.Category=4→Zx N (fF x)=some s)∧(s.Category=5→QQ N (fE x)=some s):=by
   intro c sym hc;have hg:=zeN (m:=max n 1) (by omega) (by omega);refine⟨tx c (List.replicate (max n 1) sym) x.Just,max n 1,?_,?_,?_,rfl,fun e=>?_,fun e=>?_,fun e=>?_⟩
   ·unfold Y7;dsimp only;rw[hm];exact zba (by omega) N 0 (by omega) (by omega)
   ·rcases hc with⟨rfl,rfl⟩|⟨rfl,rfl⟩
    ·have:=zm8 hg.1 (.inl rfl) x.Just;rwa [List.length_replicate]at this
    ·have:=zm8 hg.2 (.inr rfl) x.Just;rwa [List.length_replicate]at this
   ·omega
   ·have e:c=3:=e;omega
   ·have e:c=4:=e;omega
   ·have e:c=5:=e;omega
  cases t with
  |true=>
   have ht:=of_decide_eq_true ht.symm;rw[cond_true,zb];by_cases h2:(k:Int)=2
   ·rw[if_pos h2,h2];exact txt 2 88 (.inr ⟨rfl,rfl⟩)
   ·rw[if_neg h2];have h1:(k:Int)=1:=by omega
    rw[h1];exact txt 1 65 (.inl ⟨rfl,rfl⟩)
  |false=>
   have ht:=of_decide_eq_false ht.symm;rw[cond_false,zb];by_cases h3:(k:Int)=3
   ·rw[if_pos h3,h3];have hl3:=za9 (N:=N) (x:=x) (b1:=z0) (n:=n) (by omega) hn24 (n:Int) N 0 (by omega) (by omega);refine⟨tx 3 (picT (3::x.Text.take (min n 12))) false,(picT (3::x.Text.take (min n 12))).length,hl3,zuc (by rw[List.length_take];omega),?_,rfl,fun _=>rfl,(fun e=>by cases e),(fun e=>by cases e)⟩;unfold picT;simp;omega
   ·rw[if_neg h3,zb];by_cases h4:(k:Int)=4
    ·rw[if_pos h4,h4];have hf:=zgJ (N:=N) hN (x:=fF x) (dg:=x.Number_Digits.toNat) (fm:=x.Number_Form.toNat) (pt:=x.Number_Point.toNat) (by have:=hx.d0;show x.Number_Digits=_;omega) (by have:=hx.f0;show x.Number_Form=_;omega) (by have:=hx.f1;omega) (by have:=hx.p0;show x.Number_Point=_;omega) (by have:=hx.p1;omega) (by have:=hx.d1;omega);have h1:1≤x.Number_Digits.toNat%18+1:=by omega
     have h2:x.Number_Digits.toNat%18+1≤18:=by omega
     obtain⟨g1,g2,g3⟩:=zpQ (pt:=x.Number_Point.toNat) (fm:=x.Number_Form.toNat) h1 h2;obtain⟨z,hz⟩:=zjF g2 g3 (by rw[g1.cat];decide) (by rcases g1.use with e|e|e<;>rw[e]<;>decide);have hcat:=g1.cat;refine⟨shX (x.Number_Digits.toNat%18+1) x.Number_Point.toNat x.Number_Form.toNat,z,?_,hz,hz.zl (by rw[hcat];decide),hcat,(fun e=>by rw[hcat]at e;cases e),fun _=>hf,(fun e=>by rw[hcat]at e;cases e)⟩;show bnd (Zx N (fF x)) _=_;rw[hf,zc]
    ·rw[if_neg h4,zb];by_cases h5:(k:Int)=5
     ·rw[if_pos h5,h5];obtain⟨sg,w,mn,ni,pt,pa,hp⟩:=ztZ (x:=fE x) hx.s0 hx.o0 hx.w0 hx.m0 hx.n0 hx.t0 hx.a0;obtain⟨s,n',sc,g,e1,e2,e3,e4,e5⟩:=zoX hN hp hx.ins;have hcat:=e3.cat;have hu:s.Usage=0:=by
       have:=zkM e2;apply Classical.byContradiction;intro hu;unfold chkV at e2;rw[if_neg (fun h=>h this),if_neg (by omega)]at e2;unfold zcM at e2;split at e2
       ·rename_i hh;exact hh e2
       ·split at e2
        ·cases e2
        ·unfold Xc at e2;split at e2
         ·cases e2
         ·rw[if_pos ⟨hu,by omega⟩]at e2;cases e2
      obtain⟨z,hz⟩:=zjF e2 (by omega) (by rw[hcat];decide) (by omega);refine⟨s,z,?_,hz,hz.zl (by rw[hcat];decide),hcat,(fun e=>by rw[hcat]at e;cases e),(fun e=>by rw[hcat]at e;cases e),fun _=>e1⟩;show bnd (QQ N (fE x)) _=_;rw[e1,zc]
     ·have hk0:k=0:=by omega
      subst hk0;rw[if_neg h5];exact⟨gr n,n,rfl,ztp (by omega),by omega,rfl,(fun e=>by cases e),(fun e=>by cases e),(fun e=>by cases e)⟩
 have hnn:(ze x.Kind&&decide (0<6))=true:=by unfold ze;rw[decide_eq_true hk];rfl
 unfold ziF;rw[hnn,za,hn,hk6,zb];by_cases h1:(k:Int)=1
 ·rw[if_pos h1];exact key _ (decide_eq_decide.2 ⟨fun e=>.inl e,fun _=>h1⟩)
 ·rw[if_neg h1];exact key _ (decide_eq_decide.2 ⟨fun e=>.inr e,fun e=>by rcases e with e|e;exact absurd e h1;exact e⟩)
end Go.Proofs.C06
end
section
set_option maxRecDepth 100000
namespace Go.Proofs.C06
open Go Go.RowKit Go.Vc Go.Am Go.Dg
def fv(b:List UInt8)(sh:Int)(j:Nat):UInt8:=if sh≤(j:Int)∧(j:Int)-sh<(b.length:Int)then b.getD ((j:Int)-sh).toNat 0 else 32
theorem zkb(l:List UInt8)(i j:Nat)(v:UInt8):(l.set i v).getD j 0=if i=j∧i<l.length then v else l.getD j 0:=by
 rw[List.getD_eq_getElem?_getD,List.getD_eq_getElem?_getD,List.getElem?_set];by_cases h:i=j
 ·subst h;rw[if_pos rfl];by_cases h2:i<l.length
  ·rw[if_pos h2,if_pos ⟨rfl,h2⟩];rfl
  ·rw[if_neg h2,if_neg (fun e=>h2 e.2),List.getElem?_eq_none (by omega)]
 ·rw[if_neg h,if_neg (fun e=>h e.1)]
theorem Vq{N:Nat}{b:List UInt8}{n:Nat}(hb:b.length≤1000000)(hn:n≤1000000){sh:Int}(h1: -1000000≤sh)(h2:sh≤1000000):∀(k i:Nat)(L:List UInt8),i≤n→n-i<k→L.length=n→
  ∃R,yi N k b (n:Int) sh (i:Int) L=some R∧R.length=n∧(∀j,j<i→R.getD j 0=L.getD j 0)∧∀j,i≤j→j<n→R.getD j 0=fv b sh j
 |0,i,_,_,hk,_=>by omega
 |k+1,i,L,hi,hk,hL=>by
  show∃R,Qw N (yi N k) b _ sh _ L=some R∧_;unfold Qw;rw[zb];by_cases h:i<n
  ·have hi1:(i:Int)+1=((i+1:Nat):Int):=by omega
   have go:∀L':List UInt8,L'.length=n→(∀j,j<i→L'.getD j 0=L.getD j 0)→L'.getD i 0=fv b sh i→∃R,yi N k b (n:Int) sh ((i+1:Nat):Int) L'=some R∧R.length=n∧(∀j,j<i→R.getD j 0=L.getD j 0)∧∀j,i≤j→j<n→R.getD j 0=fv b sh j:=by
    intro L' e1 e2 e3;obtain⟨R,r1,r2,r3,r4⟩:=Vq hb hn h1 h2 k (i+1) L' (by omega) (by omega) e1;refine⟨R,r1,r2,fun j hj=>(r3 j (by omega)).trans (e2 j hj),fun j j1 j2=>?_⟩;by_cases hji:j=i
    ·subst hji;exact (r3 j (by omega)).trans e3
    ·exact r4 j (by omega) j2
   have s1:∀v:UInt8,(L.set i v).length=n∧(∀j,j<i→(L.set i v).getD j 0=L.getD j 0)∧(L.set i v).getD i 0=v:=fun v=>⟨by rw[List.length_set,hL],fun j hj=>by rw[zkb,if_neg (by omega)],by rw[zkb,if_pos ⟨rfl,by omega⟩]⟩
   have h32:(zj (i:Int) L.length&&inKb .u8 32)=true:=by rw[zn.2 ⟨by omega,by omega⟩];rfl
   rw[if_pos (by omega),zn.2 ⟨by omega,by omega⟩,za];rw[show chk (true&&inKb .u8 32)=chk (true:Bool) (α:=List UInt8)from rfl,za,Int.toNat_natCast];have k2:∀t:Bool,t=decide (sh≤(i:Int)∧(i:Int)-sh<(b.length:Int))→∃R,lFitted_k2 N (yi N k) b (n:Int) sh (i:Int) t (L.set i (toByte 32))=some R∧R.length=n∧(∀j,j<i→R.getD j 0=L.getD j 0)∧∀j,i≤j→j<n→R.getD j 0=fv b sh j:=by
    intro t ht;unfold lFitted_k2;cases t with
    |true=>
     have ht:=of_decide_eq_true ht.symm;have hq:(i:Int)-sh=((((i:Int)-sh).toNat:Nat):Int):=by omega
     have hbt:byteAt b ((i:Int)-sh)=(((b.getD ((i:Int)-sh).toNat 0).toNat:Nat):Int):=rfl;rw[cond_true,zg (by omega) (by omega),za,zn.2 ⟨by omega,by omega⟩,za,zn.2 ⟨by omega,by rw[List.length_set];omega⟩,za,hbt,ju,Bool.and_self,za,zg (by omega) (by omega),za,hi1,jr,Int.toNat_natCast,List.set_set];obtain⟨a1,a2,a3⟩:=s1 (b.getD ((i:Int)-sh).toNat 0);exact go _ a1 a2 (by rw[a3];unfold fv;rw[if_pos ht])
    |false=>have ht:=of_decide_eq_false ht.symm;rw[cond_false,zg (by omega) (by omega),za,hi1];obtain⟨a1,a2,a3⟩:=s1 (toByte 32);exact go _ a1 a2 (by rw[a3];unfold fv;rw[if_neg ht];rfl)
   rw[zb];by_cases hs:sh≤(i:Int)
   ·rw[if_pos hs,zg (by omega) (by omega),za];exact k2 _ (decide_eq_decide.2 ⟨fun e=>⟨hs,e⟩,fun e=>e.2⟩)
   ·rw[if_neg hs];exact k2 false (decide_eq_false (fun e=>hs e.1)).symm
  ·rw[if_neg (by omega)];exact⟨L,rfl,hL,fun _ _=>rfl,fun j j1 j2=>by omega⟩
theorem zmk{a b:List UInt8}(hl:a.length=b.length)(h:∀j,j<a.length→a.getD j 0=b.getD j 0):a=b:=by apply List.ext_getElem hl;intro j h1 h2;have:=h j h1;rwa [List.getD_eq_getElem?_getD,List.getD_eq_getElem?_getD,List.getElem?_eq_getElem h1,List.getElem?_eq_getElem h2]at this
theorem zqJ(b:List UInt8)(n:Nat)(left:Bool){j:Nat}(hj:j<n):(fit b n left).getD j 0=fv b (if left=true then(n:Int)-(b.length:Int)else 0) j:=by
 unfold fit fv;cases left with
 |true=>
  rw[if_pos rfl,if_pos rfl,List.getD_eq_getElem?_getD];by_cases h:j<n-b.length
  ·rw[List.getElem?_append_left (by rw[List.length_replicate];omega),List.getElem?_replicate,if_pos h,if_neg (by omega)];rfl
  ·rw[List.getElem?_append_right (by rw[List.length_replicate];omega),List.length_replicate,List.getElem?_drop,if_pos (by omega),List.getD_eq_getElem?_getD];congr 2;omega
 |false=>
  simp only[Bool.false_eq_true,if_false];rw[List.getD_eq_getElem?_getD];by_cases h:j<b.length
  ·rw[List.getElem?_append_left (by rw[List.length_take];omega),List.getElem?_take,if_pos hj,if_pos (by omega),List.getD_eq_getElem?_getD];congr 2
  ·rw[List.getElem?_append_right (by rw[List.length_take];omega),List.getElem?_replicate,if_pos (by rw[List.length_take];omega),if_neg (by omega)];rfl
theorem zl6{N:Nat}{b:List UInt8}{n:Nat}(hb:b.length≤500000)(hn:n<N)(hn2:n≤500000)(left:Bool):zdc N b (n:Int) left=some (fit b n left):=by
 have key:∀sh:Int,sh=(if left=true then(n:Int)-(b.length:Int)else 0)→Jo N b (n:Int) sh (List.replicate n 0)=some (fit b n left):=by
  intro sh hsh;obtain⟨R,r1,r2,r3,r4⟩:=Vq (N:=N) (b:=b) (n:=n) (by omega) (by omega) (sh:=sh) (by rw[hsh];split<;>omega) (by rw[hsh];split<;>omega) N 0 (List.replicate n 0) (Nat.zero_le _) (by omega) List.length_replicate;unfold Jo;rw[show((0:Nat):Int)=0 from rfl]at r1;rw[r1];congr 1;refine zmk (by rw[r2,znD]) fun j hj=>?_
  rw[r2]at hj;rw[r4 j (Nat.zero_le _) hj,zqJ b n left hj,hsh]
 unfold zdc;rw[zsR (by omega),za,Int.toNat_natCast];cases left with
 |true=>rw[cond_true,zg (by omega) (by omega),za];exact key _ (by rw[if_pos rfl])
 |false=>rw[cond_false];exact key 0 (by rw[if_neg (by decide)])
theorem zas{N:Nat}{n:Nat}(hn:n≤1000)(b0:Shape):∀(k i:Nat),i≤n→n-i<k→
  Yz N k (n:Int) (i:Int) b0 (Shape.mk 2 0 (List.replicate i 88) 0 0 false false false false false (n:Int))=some (tx 2 (List.replicate n 88) false)
 |0,i,_,hk=>by omega
 |k+1,i,hi,hk=>by
  show XV N (Yz N k) _ _ b0 _=_;unfold XV;dsimp only;rw[zb];by_cases h:i<n
  ·rw[if_pos (by omega),j5 (by simp;omega),za,zg (by omega) (by omega),za,←List.replicate_succ',show(i:Int)+1=((i+1:Nat):Int)by omega];exact zas hn b0 k (i+1) (by omega) (by omega)
  ·have:i=n:=by omega
   subst this;rw[if_neg (by omega)];unfold tx;rw[List.length_replicate]
theorem zgy{N:Nat}(hN:3000<N){n:Nat}(hn:n≤1000):yh N (n:Int)=some (tx 2 (List.replicate n 88) false):=
 zas hn _ N 0 (Nat.zero_le _) (by omega)
theorem zqK{b:List UInt8}{n:Nat}(h:b.length≤n)(left:Bool):fit (fit b n left) b.length left=b:=by
 unfold fit;cases left with
 |true=>rw[if_pos rfl,if_pos rfl,List.length_append,List.length_replicate,List.length_drop,show b.length-n=0 by omega,List.drop_zero,show b.length-(n-b.length+(b.length-0))=0 by omega,List.replicate_zero,List.nil_append,show n-b.length+(b.length-0)-b.length=(List.replicate (n-b.length) (32:UInt8)).length by rw[List.length_replicate];omega,List.drop_left]
 |false=>rw[if_neg (by decide),if_neg (by decide),List.length_append,List.length_replicate,List.length_take,List.take_of_length_le h,List.take_left,show b.length-(min n b.length+(n-b.length))=0 by omega,List.replicate_zero,List.append_nil]
theorem zfK(b:List UInt8)(more:Int)(just:Bool)(h0:0≤more)(_h1:more≤255):∃N,qv N b more just=some true:=by
 refine⟨4000,?_⟩;have hN:3000<4000:=by decide
 generalize hNN:(4000:Nat)=N at hN⊢;have hlv:(bnd (j8 N) fun rr=>some rr)=some true:=by rw[←hNN,Qr,zc]
 unfold qv;rw[zb];by_cases h40:40<(b.length:Int)
 ·rw[if_pos h40,hlv]
 ·rw[if_neg h40,zb];by_cases hz:(b.length:Int)=0
  ·rw[if_pos hz,hlv]
  ·rw[if_neg hz];obtain⟨m,hm⟩:=Qp (k:=20) h0 (by decide);have hnn:(ze more&&decide (0<20))=true:=by unfold ze;rw[decide_eq_true h0];rfl
   have g1:=zeN (m:=b.length) (by omega) (by omega);have g2:=zeN (m:=b.length+m) (by omega) (by omega);have ms1:=zm8 g1.2 (.inr rfl) just;have ms2:=zm8 g2.2 (.inr rfl) just;rw[List.length_replicate]at ms1 ms2;have hal:∀p q,ZA (tx 2 p just) (tx 2 q just)=true:=fun p q=>by unfold ZA;rw[if_neg (fun e=>by have e:(2:Int)=4:=e.1;omega)];show alw 2 2=true;decide
   have mv:∀p q c,(q:List UInt8).length≤1000→mvV (tx 2 p just) (tx 2 q just) c=(fit c q.length just,0):=fun p q c hq=>by
    unfold mvV;have et:J7 (tx 2 p just) (tx 2 q just) c=(c,0):=by unfold J7;rw[if_pos (.inl (show(2:Int)≠4 by decide))]
    rw[if_neg (by rw[hal];decide),if_neg (show¬(tx 2 p just).Category=0 from fun e=>by have e:(2:Int)=0:=e;omega),if_neg (by rintro(e|e);exact absurd (show(2:Int)=4 from e) (by decide);exact absurd (show(2:Int)=5 from e) (by decide)),et,if_neg (fun e=>e rfl),if_neg (show¬(tx 2 q just).Category=3 from fun e=>by have e:(2:Int)=3:=e;omega)];rfl
   rw[zgy hN (by omega),zc,hnn,za,hm,zg (by omega) (by omega),za,zg (by omega) (by omega),za,show(b.length:Int)+(m:Int)=((b.length+m:Nat):Int)by omega,zgy hN (by omega),zc];have e1:ZB N (fld (tx 2 (List.replicate b.length 88) just) b) (tx 2 (List.replicate (b.length+m) 88) just)=some (fit b (b.length+m) just,0):=by rw[zai hN ms1 ms2 rfl,mv _ _ _ (by rw[List.length_replicate];omega),List.length_replicate]
   have e2:ZB N (fld (tx 2 (List.replicate (b.length+m) 88) just) (fit b (b.length+m) just)) (tx 2 (List.replicate b.length 88) just)=some (b,0):=by rw[zai hN ms2 ms1 (znD _ _ _),mv _ _ _ (by rw[List.length_replicate];omega),List.length_replicate,zqK (by omega)]
   refine Eq.trans (congrArg (fun o=>bnd o _) e1) ?_;rw[zc];refine Eq.trans (congrArg (fun o=>bnd o _) e2) ?_;rw[zc];dsimp only;rw[decide_eq_true rfl,cond_true,cond_true];have e3:(tx 2 (List.replicate (b.length+m) 88) false).Size=((b.length+m:Nat):Int):=by unfold tx;rw[List.length_replicate]
   rw[e3,zl6 (by omega) (by omega) (by omega),zc,decide_eq_true rfl,cond_true,decide_eq_true rfl,cond_true,hlv]
end Go.Proofs.C06
end
section
set_option maxRecDepth 100000
namespace Go.Proofs.C06
open Go Go.RowKit Go.Vc Go.Am Go.Dg
theorem zqO{N:Nat}(hN:3000<N){x:F}(h1:0≤x.Digits)(h2:x.Digits≤255)(h3:0≤x.Point)(h4:x.Point≤255)(h5:0≤x.Form)(h6:x.Form≤255):
  ∃s n ng l,Zx N x=some s∧NS s n∧chkV s=0∧s.Picture.length≤400∧Digs l∧l.length=n∧(ng=true→s.Signed=true∧val l≠0)∧fOf N x=some (fld s (wr s n ng l))∧zde N x=some (zcL s ng l):=by
 have hsh:=zgJ (N:=N) hN (x:=x) (dg:=x.Digits.toNat) (fm:=x.Form.toNat) (pt:=x.Point.toNat) (by omega) (by omega) (by omega) (by omega) (by omega) (by omega);obtain⟨n,hn⟩:∃n,n=x.Digits.toNat%18+1:=⟨_,rfl⟩
 obtain⟨l,ht,hd,hl⟩:=zqN (N:=N) hN (x:=x) h1;rw[←hn]at hsh hl;obtain⟨hns,hc,hp⟩:=zpQ (n:=n) (pt:=x.Point.toNat) (fm:=x.Form.toNat) (by omega) (by omega);generalize shX n x.Point.toNat x.Form.toNat=s at hsh hns hc hp;have h18:=hns.n18;have hsc1:=hns.sc1;have hsc2:=hns.sc2;have hk:(10:Nat)^(-s.Scale).toNat≠0:=Nat.ne_of_gt (pow_pos _);have hv:∀ng:Bool,zbF N ng l s.Scale=some (j9 (canon ng (val l*10^(-s.Scale).toNat) s.Scale.toNat)):=fun ng=>zoz hN ng hd (by omega) (by omega) (by omega)
 obtain⟨ng,hng⟩:∃ng,ng=(x.Neg&&(s.Signed&&decide (val l≠0))):=⟨_,rfl⟩
 refine⟨s,n,ng,l,hsh,hns,hc,hp,hd,hl,?_,?_,?_⟩
 ·intro e;rw[hng]at e;simp only[Bool.and_eq_true,decide_eq_true_eq]at e;exact e.2
 ·unfold fOf;rw[hsh,zc,ht,zc,zoC hN hns hd hl x.Neg,zc,←hng];rfl
 ·have e:∀g:Bool,(val l≠0→g=ng)→j9 (canon g (val l*10^(-s.Scale).toNat) s.Scale.toNat)=zcL s ng l:=by intro g hg;unfold zcL;rw[zgT (fun h=>hg (fun e=>h (by rw[e,Nat.zero_mul])))]
  unfold zde;rw[hsh,zc];cases hxn:x.Neg with
  |true=>rw[cond_true,ht,zc,hv,zc,e s.Signed];intro h;rw[hng,hxn,decide_eq_true h,Bool.true_and,Bool.and_true]
  |false=>rw[cond_false,ht,zc,hv,zc,e false];intro _;rw[hng,hxn];rfl
theorem zt6(d:Decimal):(decide (d.Neg=d.Neg)&&(decide (d.Digits=d.Digits)&&(decide (d.Scale=d.Scale)&&true)))=true:=by simp
theorem zsG{s t:Shape}(h:s.Category=4)(h':t.Category=4):ZA s t=true:=by unfold ZA;rw[if_neg (by rintro⟨_,_,e|e⟩<;>omega),h,h'];decide
theorem zqE{t:Shape}{n:Nat}(h:NS t n)(d:Decimal):Vb t n (wr t n (Jj t n d) (fmt n (ZG d n t.Scale)))=(grD (Jj t n d) (ZG d n t.Scale) t.Scale,0):=by have hv:=JJ n _ (zda d n t.Scale);rw[zny h (Zn _ _) (jG _ _) (fun e=>by unfold Jj at e;simp only[Bool.and_eq_true,decide_eq_true_eq]at e;exact⟨e.2,by rw[hv];exact e.1.2⟩)];unfold zcL grD;rw[hv]
theorem zcQ(x y:F)(h1:0≤x.Digits)(h2:x.Digits≤255)(h3:0≤x.Point)(h4:x.Point≤255)(h5:0≤x.Form)(h6:x.Form≤255)
  (g1:0≤y.Digits) (g2:y.Digits≤255) (g3:0≤y.Point) (g4:y.Point≤255) (g5:0≤y.Form) (g6:y.Form≤255):∃N,jS N x y=some true:=by
 refine⟨4000,?_⟩;have hN:3000<4000:=by decide
 generalize hNN:(4000:Nat)=N at hN⊢;have hlv:(bnd (j8 N) fun rr=>some rr)=some true:=by rw[←hNN,Qr,zc]
 obtain⟨s,n,ng,l,e1,hs,hc,hp,hd,hl,hng,e2,e3⟩:=zqO hN h1 h2 h3 h4 h5 h6;obtain⟨t,m,_,_,f1,ht,hc',hp',_⟩:=zqO hN g1 g2 g3 g4 g5 g6;obtain⟨z,hz⟩:=zjF hc hp (by rw[hs.cat];decide) (by rcases hs.use with e|e|e<;>rw[e]<;>decide);obtain⟨z',hz'⟩:=zjF hc' hp' (by rw[ht.cat];decide) (by rcases ht.use with e|e|e<;>rw[e]<;>decide);have hlen:=(zp3 hs hd hl hng).2;have hvd:=(zhN hs (ng:=ng) hd hl).1;obtain⟨d,hdd⟩:∃d,d=zcL s ng l:=⟨_,rfl⟩
 rw[←hdd]at hvd e3;have hn0:Vl s (wr s n ng l)=(d,0):=by unfold Vl;rw[if_pos hs.cat,hs.nat,zny hs hd hl hng,hdd]
 have hmv:mvV s t (wr s n ng l)=(wr t m (Jj t m d) (fmt m (ZG d m t.Scale)),0):=by unfold mvV;rw[if_neg (by rw[zsG hs.cat ht.cat];decide),if_neg (by rw[hs.cat];decide),if_pos (.inl ht.cat),hn0,if_neg (fun e=>e rfl)];unfold zlu;rw[if_neg (by rw[ht.cat];decide),ht.nat]
 have hsc1:=ht.sc1;have hsc2:=ht.sc2;have h18:=ht.n18;have hwl:(wr t m (Jj t m d) (fmt m (ZG d m t.Scale))).length≤300:=by have hv:=JJ m _ (zda d m t.Scale);rw[(zp3 ht (Zn _ _) (jG _ _) (fun e=>by unfold Jj at e;simp only[Bool.and_eq_true,decide_eq_true_eq]at e;exact⟨e.2,by rw[hv];exact e.1.2⟩)).2];exact zhp ht
 unfold jS;rw[e2,zc,f1,zc,e3,zc,zai hN hz hz' (by rw[hlen,hz.sz4 hs]),hmv,zc];have hget:=zhm hN ht hc' hp' hwl;rw[zqE ht]at hget;refine Eq.trans (congrArg (fun o=>bnd o _) hget) ?_;rw[zc];dsimp only;rw[decide_eq_true rfl,Bool.not_true,cond_false,cond_false];have key:∀d':Decimal,VD d'→d'.Digits=d.Digits→d'.Scale=d.Scale→(ZG d m t.Scale≠0→(d'.Neg=(d.Neg&&t.Signed)))→(qb d' m t.Scale→grD (Jj t m d) (ZG d m t.Scale) t.Scale=d')→
   yG N t d' (grD (Jj t m d) (ZG d m t.Scale) t.Scale)=some true:=by
  intro d' hd' q1 q2 q3 q4;have hlow:ZG d' m t.Scale=ZG d m t.Scale:=by unfold ZG;rw[q1,q2]
  unfold yG;rw[ht.dig,zjs hN hd' ht.n1 (by omega) (by omega) (by omega),zc];dsimp only;rw[decide_eq_true rfl,Bool.not_true,cond_false,zb];by_cases hf:qb d' m t.Scale
  ·rw[if_pos hf,q4 hf,zt6,cond_true,hlv]
  ·obtain⟨tt,ec⟩:=zq6 hN hd' (s:=t.Scale) (by omega) (by omega);rw[if_neg hf,ec,zc,zqr hN hd' ht.n1 h18 hsc1 hsc2,zc];dsimp only;rw[decide_eq_true rfl,cond_true,cond_true,hlow];have:grD d'.Neg (ZG d m t.Scale) t.Scale=grD (Jj t m d) (ZG d m t.Scale) t.Scale:=zgC _ fun h0=>by rw[q3 h0];unfold Jj;rw[decide_eq_true h0,Bool.and_true]
   rw[this,zt6,cond_true,hlv]
 have fitk:∀b:Bool,(d.Neg&&t.Signed)=b→VD (Decimal.mk b d.Digits d.Scale)→qb (Decimal.mk b d.Digits d.Scale) m t.Scale→grD (Jj t m d) (ZG d m t.Scale) t.Scale=Decimal.mk b d.Digits d.Scale:=by
  intro b hb hv hf;have hf':qb d m t.Scale:=hf;obtain⟨b1,b2⟩:=zot ht hvd hf';have hq:ZG d m t.Scale=quo (val d.Digits) d.Scale.toNat t.Scale:=Nat.mod_eq_of_lt hf'.2;have hng2:Jj t m d=(d.Neg&&t.Signed):=by
   unfold Jj;rw[hq];cases hdn:d.Neg with
   |false=>rfl
   |true=>rw[decide_eq_true (b2 hdn),Bool.and_true]
  rw[←hb,←b1,hng2,hq];unfold zcL grD;rw[JJ m _ hf'.2]
 cases hsg:t.Signed with
 |true=>rw[Bool.not_true,cond_false];exact key d hvd rfl rfl (fun _=>by rw[hsg,Bool.and_true]) (fun hf=>by have:=fitk d.Neg (by rw[hsg,Bool.and_true]) hvd hf;exact this)
 |false=>
  rw[Bool.not_false,cond_true];have hvd':VD (Decimal.mk false d.Digits d.Scale):=by
   obtain⟨a1,a2,a3,a4,a5,a6⟩:=hvd;have e0:(-d.Scale).toNat=0:=by omega
   have hform:=VD.form ⟨a1,a2,a3,a4,a5,a6⟩;have c1:(canon false (val d.Digits) d.Scale.toNat).2=(canon d.Neg (val d.Digits) d.Scale.toNat).2:=by unfold canon;split<;>rfl
   have hd2:j9 (canon false (val d.Digits) d.Scale.toNat)=Decimal.mk false d.Digits d.Scale:=by
    have hn:(canon false (val d.Digits) d.Scale.toNat).1=false:=by rw[Q1];rfl
    have hD:(canon d.Neg (val d.Digits) d.Scale.toNat).2.1=d.Digits:=congrArg Decimal.Digits hform;have hS:(((canon d.Neg (val d.Digits) d.Scale.toNat).2.2:Nat):Int)=d.Scale:=congrArg Decimal.Scale hform;unfold j9;rw[hn,c1,hD,hS]
   refine hd2▸VD.of ?_ ?_
   ·rw[c1];have hD:(canon d.Neg (val d.Digits) d.Scale.toNat).2.1=d.Digits:=congrArg Decimal.Digits hform;rw[hD];exact a3
   ·rw[c1];exact Nat.le_trans (zF _ _ _) (by omega)
  exact key (Decimal.mk false d.Digits d.Scale) hvd' rfl rfl (fun _=>by rw[hsg,Bool.and_false]) (fun hf=>fitk false (by rw[hsg,Bool.and_false]) hvd' hf)
end Go.Proofs.C06
end
section
set_option maxRecDepth 100000
namespace Go.Proofs.C06
open Go Go.RowKit Go.Vc Go.Am Go.Dg
def zD:Decimal:=Decimal.mk false [48] 0
theorem zsM:VD zD:=by have:=VD.of (neg:=false) (v:=0) (s:=0) (by decide) (by decide);exact this
theorem zsF{n:Nat}(c:UInt8)(hn:n≤100000000):zmN ([((c.toNat:Nat):Int)].map toByte) (n:Int)=some (List.replicate n c):=by
 have e:[((c.toNat:Nat):Int)].map toByte=[c]:=by show[toByte _]=[c];rw[jr]
 rw[e];show chk (decide ((0:Int)≤(n:Int))&&decide ((n:Int)≤140737488355328)) (some (List.replicate ((n:Int)).toNat c))=_;rw[decide_eq_true (by omega),decide_eq_true (by omega),Int.toNat_natCast];rfl
theorem zjO{N n:Nat}(c:UInt8)(hn:n≤100000000):zei N (n:Int) ((c.toNat:Nat):Int)=some (List.replicate n c,((c.toNat:Nat):Int)):=by unfold zei;rw[ju,Bool.and_self,za,zsF c hn,zc]
def rpV(s:Shape)(c:UInt8):List UInt8×Int:=if s.Category=4∨s.Category=5 then(if c≠48 then([],12)else if s.Category=5 then((edT s s.Digits.toNat false (zfJ zD s.Digits.toNat s.Scale.toNat)).getD [],0)else zol s s.Digits.toNat zD)else if s.Category=3 then(txt s.Picture (List.replicate s.Picture.length c),0)else(List.replicate s.Size.toNat c,0)
theorem zlV{N:Nat}(hN:3000<N){s:Shape}{z:Nat}(h:MS s z)(c:UInt8):JM N ((c.toNat:Nat):Int) s=some (rpV s c):=by
 have hz:=h.zle;have hS:s.Size.toNat=z:=by have:=h.siz;omega
 have hp:=h.pic;have k0:∀t:Bool,t=decide (s.Category=4∨s.Category=5)→Jh N s.Category t ((c.toNat:Nat):Int) s=some (rpV s c):=by
  intro t ht;unfold Jh rpV;cases t with
  |true=>
   have ht:=of_decide_eq_true ht.symm;rw[cond_true,if_pos ht,zf];by_cases h48:c=48
   ·subst h48;rw[if_pos (show(((48:UInt8).toNat:Nat):Int)=48 from rfl),if_neg (fun e=>e rfl),zb];by_cases h5:s.Category=5
    ·obtain⟨n,sc,sg,hes⟩:=znF h.chk h5;obtain⟨r,f1,f2⟩:=zk9 hN hes h.chk zsM;have f1:edT s n false (zfJ zD n sc)=some r:=f1;have f2:zg2 N (Decimal.mk false [48] 0) s=some (r,0):=f2;rw[if_pos h5,if_pos h5,zsV,zc,f2,zc,hes.nat.1,hes.nat.2,f1];rfl
    ·have h4:s.Category=4:=by omega
     obtain⟨n,hns⟩:=znn h.chk h4 h.u0;have f2:zn6 N (Decimal.mk false [48] 0) s=some (zol s n zD):=zm7 hN hns h.chk h.pic zsM;rw[if_neg h5,if_neg h5,zsV,zc,f2,zc,hns.nat]
   ·have:¬(((c.toNat:Nat):Int)=48):=fun e=>h48 ((qK c 48 (by decide)).1 e)
    rw[if_neg this,if_pos h48]
  |false=>
   have ht:=of_decide_eq_false ht.symm;rw[cond_false,if_neg ht,zb];by_cases h3:s.Category=3
   ·have hk:=zsT h.chk h3;have hzz:=h.zl (by omega);rw[if_pos h3,if_pos h3,zjO c (by omega),zc,zk7 (by omega) h.pic _ (fun _=>by have:=h.siz;omega),if_neg (fun e=>e hk),zc]
   ·rw[if_neg h3,if_neg h3,h.siz,zjO c (by omega),zc,clip_is,zc,Int.toNat_natCast]
 unfold JM;rw[qg (by omega) h.pic,h.chk,zc,decide_eq_true rfl,Bool.not_true,cond_false,zb];by_cases h4:s.Category=4
 ·rw[if_pos h4];exact k0 _ (decide_eq_decide.2 ⟨fun e=>.inl e,fun _=>h4⟩)
 ·rw[if_neg h4];exact k0 _ (decide_eq_decide.2 ⟨fun e=>.inr e,fun e=>by rcases e with e|e;exact absurd e h4;exact e⟩)
end Go.Proofs.C06
end
section
set_option maxRecDepth 100000
namespace Go.Proofs.C06
open Go Go.RowKit Go.Vc Go.Am Go.Dg
theorem zlY{N:Nat}(hN:3000<N){s t:Shape}{b:List UInt8}(hp:s.Picture.length≤400)(hc:0≤s.Category)(hu:0≤s.Usage){z':Nat}(ht:MS t z'):∃r,ZB N (fld s b) t=some r:=by
 by_cases hk:chkV s=0
 ·obtain⟨z,hz⟩:=zjF hk hp hc hu;by_cases hl:b.length=z
  ·exact⟨_,zai hN hz ht hl⟩
  ·refine⟨([],5),?_⟩;unfold ZB;show bnd (Kz N s) _=_;rw[qg (by omega) hp,hk,zc,decide_eq_true rfl,Bool.not_true,cond_false,qg (by omega) ht.pic,ht.chk,zc,decide_eq_true rfl,Bool.not_true];unfold Ji;show cond false _ (cond (!decide ((b.length:Int)=s.Size)) _ _)=_;rw[cond_false,decide_eq_false (by rw[hz.siz];omega),Bool.not_false,cond_true]
 ·refine⟨([],1),?_⟩;unfold ZB;show bnd (Kz N s) _=_;rw[qg (by omega) hp,zc,decide_eq_false hk,Bool.not_false,cond_true];unfold Ji;rw[cond_true]
def WB(o:Option (Int×Bool)):Prop:=∃(c:UInt8)(k:Bool),o=some (((c.toNat:Nat):Int),k)
theorem WB.cond{p:Bool}{x y:Option (Int×Bool)}(h:WB x)(h':WB y):WB (cond p x y):=by cases p<;>assumption
theorem wb(c:UInt8)(k:Bool):WB (some (((c.toNat:Nat):Int),k)):=⟨c,k,rfl⟩
theorem zi3(N:Nat)(s:List UInt8):WB (zcd N s):=by
 have k2:∀s,WB (Xy N s):=fun s=>by
  unfold Xy
  repeat' first|exact wb 0 true|exact wb 34 true|exact wb 0 false|with_reducible refine WB.cond ?_ ?_
 have k1:∀s,WB (Xz N s):=fun s=>by
  unfold Xz
  repeat' first|exact k2 _|exact wb 255 true|with_reducible refine WB.cond ?_ ?_
 have k0:∀s,WB (XA N s):=fun s=>by
  unfold XA
  repeat' first|exact k1 _|exact wb 32 true|with_reducible refine WB.cond ?_ ?_
 unfold zcd
 repeat' first|exact k0 _|exact wb 48 true|with_reducible refine WB.cond ?_ ?_
def LF(o:Option (Field×Int)):Prop:=∃s b e,o=some (fld s b,e)∧s.Picture.length≤400∧0≤s.Category∧0≤s.Usage
theorem lf0(e:Int):LF (some ((Field.mk 0 0 [] 0 0 false false false false false 0 []),e)):=⟨Shape.mk 0 0 [] 0 0 false false false false false 0,[],e,rfl,Nat.zero_le _,Int.le_refl 0,Int.le_refl 0⟩
theorem LF.ite{p:Prop}[Decidable p]{x y:Option (Field×Int)}(h:p→LF x)(h':¬p→LF y):LF (if p then x else y):=by
 by_cases hp:p
 ·rw[if_pos hp];exact h hp
 ·rw[if_neg hp];exact h' hp
theorem Vi(s p:List UInt8):(Lib.trimPrefix s p).length≤s.length:=by
 unfold Lib.trimPrefix;split
 ·rw[List.length_drop];omega
 ·exact Nat.le_refl _
theorem ztA(s p:List UInt8):(Lib.cut s p).1.length+(Lib.cut s p).2.1.length≤s.length:=by
 unfold Lib.cut;split
 ·show(s.take _).length+(s.drop _).length≤_;rw[List.length_take,List.length_drop];omega
 ·show s.length+0≤_;omega
theorem zm2{N:Nat}(hN:3000<N){s:List UInt8}(hs:s.length≤60):LF (zpB N s):=by
 have l1:=Vi s [43];have l2:=Vi (Lib.trimPrefix s [43]) [45];have l3:=ztA (Lib.trimPrefix (Lib.trimPrefix s [43]) [45]) [46];generalize hr:Lib.trimPrefix (Lib.trimPrefix s [43]) [45]=rest at l2 l3;obtain⟨w,p,pt,hc⟩:∃w p pt,Lib.cut rest [46]=(w,p,pt):=⟨_,_,_,rfl⟩
 rw[hc]at l3;have l3:w.length+p.length≤rest.length:=l3;have hap:(w++p).length=w.length+p.length:=List.length_append;have k0:∀sg:Bool,sg=decide ((rest.length:Int)<(s.length:Int))→w++p≠[]→Digs (w++p)→LF (WQ N s sg w p (w++p) 0 0 [] 0 0 false false false false false 0):=by
  intro sg hsg hne hd;have k2:∀(pic b:List UInt8),pic.length≤300→LF (WO N sg p (w++p) pic 0 0 [] 0 0 false false false false false 0 b):=fun pic b hpl=>by unfold WO;rw[clip_is,zc];exact⟨Shape.mk 4 0 pic (((w++p).length:Nat):Int) ((p.length:Nat):Int) sg false false false false ((b.length:Nat):Int),b,0,rfl,by show pic.length≤400;omega,show(0:Int)≤4 by decide,Int.le_refl 0⟩
  have k3:∀(pic sign:List UInt8),pic.length≤300→sign.length=10→LF (WN N sg p (w++p) pic sign 0 0 [] 0 0 false false false false false 0 (w++p)):=fun pic sign hpl hsl=>by
   have hpos:0<(w++p).length:=List.length_pos_iff.2 hne;unfold WN;obtain⟨i,hi⟩:∃i:Nat,i=(w++p).length-1:=⟨_,rfl⟩
   have hii:((w++p).length:Int)-1=(i:Int):=by omega
   have hx:zj (i:Int) (w++p).length=true:=zn.2 ⟨by omega,by omega⟩;have hb:byteAt (w++p) (i:Int)=((((w++p).getD i 0).toNat:Nat):Int):=rfl;have hm:(w++p).getD i 0∈w++p:=by rw[List.getD_eq_getElem?_getD,List.getElem?_eq_getElem (by omega:i<(w++p).length)];exact List.getElem_mem _
   have hdg:=hd _ hm;have hwr:IntKind.wrap .u8 (((((w++p).getD i 0).toNat:Nat):Int)-48)=(((((w++p).getD i 0).toNat-48):Nat):Int):=by rw[show((((w++p).getD i 0).toNat:Nat):Int)-48=(((((w++p).getD i 0).toNat-48):Nat):Int)by omega];exact zg5 (by omega) (by omega)
   have hsb:byteAt sign (((((w++p).getD i 0).toNat-48):Nat):Int)=(((sign.getD (((w++p).getD i 0).toNat-48) 0).toNat:Nat):Int):=rfl;rw[hii,zg (by omega) (by omega),za,hx,za,za,hb,hwr,zn.2 ⟨by omega,by omega⟩,za,za,hsb,ju,Bool.and_self,za];exact k2 _ _ hpl
  have k1:∀pic:List UInt8,pic.length≤200→LF (WP N s sg p (w++p) pic 0 0 [] 0 0 false false false false false 0 (w++p)):=fun pic hpl=>by
   unfold WP;cases hsg':sg with
   |false=>rw[cond_false];rw[←hsg'];exact k2 _ _ (by omega)
   |true=>have hlt:=of_decide_eq_true (hsg.symm.trans hsg');rw[cond_true,j5 (by simp;omega),za,show(0:Int)=((0:Nat):Int)from rfl,zn.2 ⟨by omega,by omega⟩,za,zb,←hsg'];exact LF.ite (fun _=>k3 _ _ (by simp;omega) rfl) (fun _=>k3 _ _ (by simp;omega) rfl)
  unfold WQ;rw[zb];refine LF.ite (fun _=>lf0 5) (fun _=>?_);rw[znu 57 (by omega),zc,zf];refine LF.ite (fun _=>k1 _ (by rw[List.length_replicate];omega)) (fun _=>?_);rw[znu 57 (by omega),zc,j5 (by simp;omega),za,j5 (by simp;omega),za];exact k1 _ (by simp;omega)
 have hcut:zl7 rest [46]=some (w,p,pt):=by unfold zl7;rw[decide_eq_true (by omega),za,hc]
 unfold zpB;show LF (bnd (some (Lib.trimPrefix s [43])) fun rr=>bnd (some (Lib.trimPrefix rr [45])) fun rr1=>bnd (zl7 rr1 [46]) _);rw[zc,zc,hr,hcut,zc];dsimp only;rw[j5 (by omega),za,zg (by omega) (by omega),za,zb];refine LF.ite (fun _=>lf0 4) (fun _=>?_);rw[zaY (by omega) (by omega),zc,zf];refine LF.ite (fun hd=>?_) (fun _=>lf0 4);cases pt with
 |true=>rw[cond_true,zb];exact LF.ite (fun _=>lf0 4) (fun _=>k0 _ rfl hd.1 hd.2)
 |false=>rw[cond_false];exact k0 _ rfl hd.1 hd.2
theorem ziW{N:Nat}{s:List UInt8}(hs:s.length≤60):LF (ziX N s):=by unfold ziX;rw[zb];refine LF.ite (fun _=>lf0 5) (fun _=>?_);rw[zb,if_neg (by omega),znu 88 (by omega),zc,clip_is,zc];exact⟨Shape.mk 2 0 (List.replicate s.length 88) 0 0 false false false false false ((s.length:Nat):Int),s,0,rfl,by show(List.replicate s.length (88:UInt8)).length≤400;rw[List.length_replicate];omega,show(0:Int)≤2 by decide,Int.le_refl 0⟩
theorem zi1{N:Nat}(hN:3000<N)(t:Token)(hs:t.Text.length≤60):∃s b e,Xw N t=some (fld s b,e)∧s.Picture.length≤400∧0≤s.Category∧0≤s.Usage∧
  (t.Kind=1→e=0→∃c:UInt8,zcd N t.Text=some (((c.toNat:Nat):Int),true)):=by
 have fin:∀{o:Option (Field×Int)},LF o→t.Kind≠1→∃s b e,(bnd o fun rr=>some (rr.1,rr.2))=some (fld s b,e)∧s.Picture.length≤400∧0≤s.Category∧0≤s.Usage∧
   (t.Kind=1→e=0→∃c:UInt8,zcd N t.Text=some (((c.toNat:Nat):Int),true)):=by
  rintro _ ⟨s,b,e,rfl,h1,h2,h3⟩ hk;exact⟨s,b,e,rfl,h1,h2,h3,fun e=>absurd e hk⟩
 unfold Xw;rw[zb];by_cases h2:t.Kind=2
 ·rw[if_pos h2];exact fin (zm2 hN hs) (by omega)
 ·rw[if_neg h2,zb];by_cases h3:t.Kind=3
  ·rw[if_pos h3];exact fin (ziW hs) (by omega)
  ·rw[if_neg h3,zb];by_cases h1:t.Kind=1
   ·obtain⟨c,k,hb⟩:=zi3 N t.Text;rw[if_pos h1,hb,zc];dsimp only;cases k with
    |false=>rw[Bool.not_false,cond_true];exact⟨Shape.mk 0 0 [] 0 0 false false false false false 0,[],11,rfl,Nat.zero_le _,Int.le_refl 0,Int.le_refl 0,fun _ e=>by cases e⟩
    |true=>
     rw[Bool.not_true,cond_false,zb];have fin2:∀{o:Option (Field×Int)},LF o→∃s b e,(bnd o fun rr=>some (rr.1,rr.2))=some (fld s b,e)∧s.Picture.length≤400∧0≤s.Category∧0≤s.Usage∧
       (t.Kind=1→e=0→∃c':UInt8,some (((c.toNat:Nat):Int),true)=some (((c'.toNat:Nat):Int),true)):=by
      rintro _ ⟨s,b,e,rfl,h1,h2,h3⟩;exact⟨s,b,e,rfl,h1,h2,h3,fun _ _=>⟨c,rfl⟩⟩
     by_cases h48:((c.toNat:Nat):Int)=48
     ·rw[if_pos h48];exact fin2 (zm2 hN (by decide))
     ·rw[if_neg h48,ju,Bool.and_self,za];exact fin2 (ziW (by show 1≤60;decide))
   ·rw[if_neg h1];exact⟨Shape.mk 0 0 [] 0 0 false false false false false 0,[],12,rfl,Nat.zero_le _,Int.le_refl 0,Int.le_refl 0,fun e=>absurd e h1⟩
theorem zbE(t:Token)(w:Int)(y:F_64)(h0:0≤w)(_h1:w≤255)(hy:FX y):∃N,jz N t w y=some true:=by
 refine⟨4000,?_⟩;have hN:3000<4000:=by decide
 generalize hNN:(4000:Nat)=N at hN⊢;have hlv:(bnd (j8 N) fun rr=>some rr)=some true:=by rw[←hNN,Qr,zc]
 obtain⟨s,z,e1,hm,_⟩:=zpn hN hy;have k0:∀t:Token,t.Text.length≤60→yg N t s=some true:=by
  intro t ht;obtain⟨ls,lb,e,w1,w2,w3,w4,w5⟩:=zi1 hN t ht;obtain⟨c,k,wb1⟩:=zi3 N t.Text;obtain⟨mv,hmv⟩:=zlY hN (b:=lb) w2 w3 w4 hm;have hrp:=zlV hN hm c;have hmc:KP N t s=some (if e=0 then(if k=true∧t.Kind=1 then rpV s c else mv)else([],e)):=by
   unfold KP;rw[w1,zc];dsimp only;rw[zf];by_cases he:e=0
   ·have kk:∀x:Bool,qu N ((c.toNat:Nat):Int) x s (fld ls lb)=some (if x=true then rpV s c else mv):=fun x=>by
     unfold qu;cases x with
     |true=>rw[cond_true,hrp,zc];rfl
     |false=>rw[cond_false,hmv,zc];rfl
    rw[if_pos he,if_pos he,wb1,zc];dsimp only;cases k with
    |true=>
     rw[cond_true,kk];by_cases hk:t.Kind=1
     ·rw[if_pos (decide_eq_true hk),if_pos ⟨rfl,hk⟩]
     ·rw[if_neg (by simpa using hk),if_neg (fun e=>hk e.2)]
    |false=>rw[cond_false,kk,if_neg (by decide),if_neg (fun e=>by cases e.1)]
   ·rw[if_neg he,if_neg he]
  unfold yg;rw[hmc,zc,w1,zc];dsimp only;rw[zf];by_cases he:e=0
  ·rw[if_pos he,if_pos he,zb];by_cases hk:t.Kind=1
   ·obtain⟨c',hc'⟩:=w5 hk he;rw[wb1]at hc';have hkt:k=true:=(Prod.mk.inj (Option.some.inj hc')).2;rw[if_pos hk,wb1,zc];dsimp only;rw[hrp,zc,hkt,cond_true,if_pos ⟨rfl,hk⟩,decide_eq_true rfl,cond_true,decide_eq_true rfl,cond_true,hlv]
   ·rw[if_neg hk,hmv,zc,if_neg (fun e=>hk e.2),decide_eq_true rfl,cond_true,decide_eq_true rfl,cond_true,hlv]
  ·rw[if_neg he,if_neg he];dsimp only;rw[decide_eq_true rfl,cond_true];exact hlv
 unfold jz;rw[zb];by_cases h60:60<(t.Text.length:Int)
 ·rw[if_pos h60,hlv]
 ·rw[if_neg h60,e1,zc,zb];by_cases h128:128≤w
  ·have hnn:(ze w&&decide (0<8))=true:=by unfold ze;rw[decide_eq_true h0];rfl
   obtain⟨m,hm8⟩:=Qp (k:=8) h0 (by decide);have hlt:m<8:=by omega
   rw[if_pos h128,hnn,za,hm8,zn.2 ⟨by omega,by show(m:Int)<((8:Nat):Int);omega⟩,za,za];refine k0 _ ?_;show(atS _ (m:Int)).length≤60;unfold atS;rw[Int.toNat_natCast];rcases m with _|_|_|_|_|_|_|_|m
   all_goals first|decide|omega
  ·rw[if_neg h128];exact k0 t (by omega)
end Go.Proofs.C06
end
