/-
  A part of the proof of the laws on edits.
-/
import Derived.Test.YtpghlpmkljkakaaGreatDoorEc
section
set_option maxRecDepth 100000
namespace Go.Proofs.C06
open Go Go.RowKit Go.Vc Go.Am Go.Dg
theorem lRep_l0_is{N:Nat}(c:UInt8){m:Nat}(hm:m≤2000):∀(k i:Nat)(out:List UInt8),i≤m→m-i<k→out=List.replicate i c→lRep_l0 N k [c] (m:Int) out (i:Int)=some (List.replicate m c)
 |0,i,out,hi,h,_=>by omega
 |k+1,i,out,hi,h,ho=>by
  show lRep_l0_b N (lRep_l0 N k) [c] (m:Int) out (i:Int)=_;unfold lRep_l0_b;rw[cond_dec];by_cases hlt:i<m
  ·rw[if_pos (by omega),catOk_iff.2 (by rw[ho];simp;omega),chk_true,in64 (by omega) (by omega),chk_true,show(i:Int)+1=((i+1:Nat):Int)by omega];refine lRep_l0_is c hm k (i+1) _ (by omega) (by omega) ?_;rw[ho,←List.replicate_succ']
  ·have:i=m:=by omega
   rw[if_neg (by omega),ho,this]
theorem lRep_is{N:Nat}(hN:3000<N)(c:UInt8){m:Nat}(hm:m≤2000):lRep N [c] (m:Int)=some (List.replicate m c):=
 lRep_l0_is c hm N 0 [] (by omega) (by omega) rfl
theorem lCnt_l0_is{N:Nat}{p:List UInt8}(hp:p.length≤400)(c:UInt8):∀(k i n:Nat),i≤p.length→p.length-i<k→n≤i→lCnt_l0 N k p (c.toNat:Int) (n:Int) (i:Int)=some ((n+(p.drop i).count c:Nat):Int)
 |0,i,n,hi,h,_=>by omega
 |k+1,i,n,hi,h,hn=>by
  show lCnt_l0_b N (lCnt_l0 N k) p (c.toNat:Int) (n:Int) (i:Int)=_;unfold lCnt_l0_b;rw[cond_dec];by_cases hlt:i<p.length
  ·have hdr:p.drop i=p.getD i 0::p.drop (i+1):=drop_cons' hlt;have hby:byteAt p (i:Int)=((p.getD i 0).toNat:Int):=rfl;have hi1:(i:Int)+1=((i+1:Nat):Int):=by omega
   rw[if_pos (by omega),inIx_iff.2 ⟨by omega,by omega⟩,chk_true,hby,cond_dec,hdr,List.count_cons];generalize p.getD i 0=x;by_cases hx:x=c
   ·subst hx;rw[if_pos rfl,in64 (by omega) (by omega),chk_true,in64 (by omega) (by omega),chk_true,hi1,show(n:Int)+1=((n+1:Nat):Int)by omega,lCnt_l0_is hp x k (i+1) (n+1) (by omega) (by omega) (by omega)];simp;omega
   ·rw[if_neg (fun e=>hx (UInt8.toNat_inj.1 (by omega))),in64 (by omega) (by omega),chk_true,hi1,lCnt_l0_is hp c k (i+1) n (by omega) (by omega) (by omega)];simp[hx]
  ·rw[if_neg (by omega),List.drop_eq_nil_of_le (by omega)];simp
theorem lCnt_is{N:Nat}(hN:3000<N){p:List UInt8}(hp:p.length≤400)(c:UInt8):lCnt N p (c.toNat:Int)=some ((p.count c:Nat):Int):=by have:=lCnt_l0_is (N:=N) hp c N 0 0 (by omega) (by omega) (by omega);unfold lCnt;simpa using this
def lsg(c:UInt8)(neg:Bool):UInt8:=if c=36 then 36 else sgnC c neg
theorem lSign_is(N:Nat)(c:UInt8)(neg:Bool):lSign N (c.toNat:Int) neg=some ((lsg c neg).toNat:Int):=by
 unfold lSign lsg sgnC;have h36:((c.toNat:Int)=36)↔c=36:=symN c 36 (by decide);have h43:((c.toNat:Int)=43)↔c=43:=symN c 43 (by decide);rw[cond_dec];by_cases h:c=36
 ·subst h;rfl
 ·rw[if_neg (fun e=>h (h36.1 e)),if_neg h];cases neg
  ·rw[cond_false,cond_dec];by_cases h2:c=43
   ·subst h2;rfl
   ·rw[if_neg (fun e=>h2 (h43.1 e))];simp[h2]
  ·rfl
def atL(fl:UInt8):Bool→List UInt8→List UInt8→List UInt8
 |_,[],_=>[]
 |f,c::r,ds=>if c=fl∧f=false then 0::atL fl true r ds else if dig fl c=true then ds.headD 0::atL fl f r ds.tail else 0::atL fl f r ds
def allD(P:UInt8→Bool)(fl:UInt8):Bool→List UInt8→Bool
 |_,[]=>true
 |f,c::r=>if c=fl∧f=false then allD P fl true r else if dig fl c=true then P c&&allD P fl f r else allD P fl f r
def z48(ds:List UInt8):Bool:=ds.all fun d=>decide (d=48)
def finL(N:Nat)(s:Shape)(neg:Bool)(p tail:List UInt8)(fl:UInt8)(z bl st:Bool)(a:List UInt8):Option (List UInt8):=if z=true∧(s.Blank=true∨bl=true)then lRep N [32] s.Size else lEdited_k7 N neg p tail (fl.toNat:Int) z st a
def isZ(fl c:UInt8):Bool:=decide (c=90)||decide (c=fl)
def isS(c:UInt8):Bool:=decide (c=42)
theorem set_pre(pre:List UInt8)(m:Nat)(d:UInt8):(pre++List.replicate (m+1) 0).set pre.length d=(pre++[d])++List.replicate m 0:=by rw[List.set_append_right _ _ (Nat.le_refl _),Nat.sub_self,List.replicate_succ,List.set_cons_zero,List.append_assoc];rfl
theorem headD_drop{ds:List UInt8}{u:Nat}(h:u<ds.length):(ds.drop u).headD 0=ds.getD u 0∧(ds.drop u).tail=ds.drop (u+1):=by rw[drop_cons' h];exact⟨rfl,rfl⟩
theorem lEdited_l2_is{N:Nat}(hN:3000<N){s:Shape}{ds p tail:List UInt8}{fl:UInt8}{neg:Bool}(hp:p.length≤400)(hds:ds.length≤1000):∀(k i u:Nat)(f:Bool)(first:Int)(z bl st:Bool)(pre:List UInt8),
  pre.length=i→i≤p.length→p.length-i<k→f=decide (0≤first)→u+need fl f (p.drop i)≤ds.length→
  lEdited_l2 N k ds neg p tail (fl.toNat:Int) (u:Int) first z bl st (i:Int) s (pre++List.replicate (p.length-i) 0)=
   finL N s neg p tail fl (z&&z48 ((ds.drop u).take (need fl f (p.drop i)))) (bl&&allD (isZ fl) fl f (p.drop i)) (st&&allD isS fl f (p.drop i)) (pre++atL fl f (p.drop i) (ds.drop u))
 |0,i,u,f,first,z,bl,st,pre,_,hi,h,_,_=>by omega
 |k+1,i,u,f,first,z,bl,st,pre,hpre,hi,h,hf,hn=>by
  show lEdited_l2_b N (lEdited_l2 N k) ds neg p tail (fl.toNat:Int) (u:Int) first z bl st (i:Int) s (pre++List.replicate (p.length-i) 0)=_
  unfold lEdited_l2_b;rw[cond_dec];by_cases hlt:i<p.length
  ·have hdr:p.drop i=p.getD i 0::p.drop (i+1):=drop_cons' hlt;have hby:byteAt p (i:Int)=((p.getD i 0).toNat:Int):=rfl;have hi1:(i:Int)+1=((i+1:Nat):Int):=by omega
   have ix:inIx (i:Int) p.length=true:=inIx_iff.2 ⟨by omega,by omega⟩;obtain⟨m,hm⟩:∃m,p.length-i=m+1:=⟨p.length-i-1,by omega⟩
   have hm':p.length-(i+1)=m:=by omega
   have go:=fun(u:Nat)(f:Bool)(first:Int)(z bl st:Bool)(d:UInt8) hf hn=>lEdited_l2_is hN (s:=s) (ds:=ds) (tail:=tail) (fl:=fl) (neg:=neg) hp hds k (i+1) u f first z bl st (pre++[d]) (by simp[hpre]) (by omega) (by omega) hf hn
   rw[hm']at go;rw[hdr,need]at hn;rw[if_pos (by omega),ix,chk_true,hby,hdr,hm];have r0:pre++List.replicate (m+1) (0:UInt8)=(pre++[0])++List.replicate m 0:=by rw[List.replicate_succ,List.append_assoc];rfl
   have plain:¬(p.getD i 0=fl∧f=false)→lEdited_k3 N (lEdited_l2 N k) ds neg p tail (fl.toNat:Int) (u:Int) first z bl st (i:Int) s (pre++List.replicate (m+1) 0)=
     finL N s neg p tail fl (z&&z48 ((ds.drop u).take (need fl f (p.getD i 0::p.drop (i+1))))) (bl&&allD (isZ fl) fl f (p.getD i 0::p.drop (i+1))) (st&&allD isS fl f (p.getD i 0::p.drop (i+1))) (pre++atL fl f (p.getD i 0::p.drop (i+1)) (ds.drop u)):=by
    intro hnf;have k4:∀t:Bool,t=dig fl (p.getD i 0)→lEdited_k4 N (lEdited_l2 N k) ds neg p tail (fl.toNat:Int) (u:Int) first z bl st (i:Int) t s (pre++List.replicate (m+1) 0)=
      finL N s neg p tail fl (z&&z48 ((ds.drop u).take (need fl f (p.getD i 0::p.drop (i+1))))) (bl&&allD (isZ fl) fl f (p.getD i 0::p.drop (i+1))) (st&&allD isS fl f (p.getD i 0::p.drop (i+1))) (pre++atL fl f (p.getD i 0::p.drop (i+1)) (ds.drop u)):=by
     rintro t rfl;unfold lEdited_k4 need allD atL;rw[if_neg hnf,if_neg hnf,if_neg hnf,if_neg hnf];cases hd:dig fl (p.getD i 0)with
     |false=>rw[cond_false,if_neg (by decide),if_neg (by decide),if_neg (by decide),if_neg (by decide),in64 (by omega) (by omega),chk_true,hi1,r0,go u f first z bl st 0 hf (by rw[hd,if_neg (by decide)]at hn;exact hn),List.append_assoc];rfl
     |true=>
      rw[hd,if_pos rfl,if_neg hnf]at hn;have hu:u<ds.length:=by omega
      have iu:inIx (u:Int) ds.length=true:=inIx_iff.2 ⟨by omega,by omega⟩;have hbd:byteAt ds (u:Int)=((ds.getD u 0).toNat:Int):=rfl;have ia:inIx (i:Int) (pre++List.replicate (m+1) (0:UInt8)).length=true:=inIx_iff.2 ⟨by omega,by simp[hpre];omega⟩;have hu1:(u:Int)+1=((u+1:Nat):Int):=by omega
      have hset:(pre++List.replicate (m+1) (0:UInt8)).set ((i:Int)).toNat (toByte ((ds.getD u 0).toNat:Int))=(pre++[ds.getD u 0])++List.replicate m 0:=by rw[Int.toNat_natCast,←hpre,set_pre,toByte_u8]
      obtain⟨d1,d2⟩:=headD_drop hu;have htk:(ds.drop u).take (need fl f (p.drop (i+1))+1)=ds.getD u 0::(ds.drop (u+1)).take (need fl f (p.drop (i+1))):=by rw[drop_cons' hu,List.take_succ_cons]
      have hz:z48 (ds.getD u 0::(ds.drop (u+1)).take (need fl f (p.drop (i+1))))=(decide (ds.getD u 0=48)&&z48 ((ds.drop (u+1)).take (need fl f (p.drop (i+1))))):=rfl;have e48:decide (((ds.getD u 0).toNat:Int)=48)=decide (ds.getD u 0=48):=decide_eq_decide.2 (symN _ 48 (by decide));rw[cond_true,cond_dec,if_neg (by omega),iu,chk_true,ia,chk_true,hbd,u8_toNat,Bool.and_true,chk_true,if_pos rfl,if_pos rfl,if_pos rfl,if_pos rfl,htk,hz,d1,d2,e48,hset,chk_true];have fin:∀zz bb ss:Bool,zz=(z&&decide (ds.getD u 0=48))→bb=(bl&&isZ fl (p.getD i 0))→ss=(st&&isS (p.getD i 0))→
        lEdited_l2 N k ds neg p tail (fl.toNat:Int) ((u+1:Nat):Int) first zz bb ss ((i+1:Nat):Int) s ((pre++[ds.getD u 0])++List.replicate m 0)=
        finL N s neg p tail fl (z&&(decide (ds.getD u 0=48)&&z48 ((ds.drop (u+1)).take (need fl f (p.drop (i+1)))))) (bl&&(isZ fl (p.getD i 0)&&allD (isZ fl) fl f (p.drop (i+1)))) (st&&(isS (p.getD i 0)&&allD isS fl f (p.drop (i+1)))) (pre++ds.getD u 0::atL fl f (p.drop (i+1)) (ds.drop (u+1))):=by
       rintro _ _ _ rfl rfl rfl;rw[go (u+1) f first _ _ _ (ds.getD u 0) hf (by omega),List.append_assoc,Bool.and_assoc,Bool.and_assoc,Bool.and_assoc];rfl
      have k6:∀zz bb:Bool,zz=(z&&decide (ds.getD u 0=48))→bb=(bl&&isZ fl (p.getD i 0))→lEdited_k6 N (lEdited_l2 N k) ds neg p tail (fl.toNat:Int) (u:Int) first zz bb st (i:Int) s ((pre++[ds.getD u 0])++List.replicate m 0)=
        finL N s neg p tail fl (z&&(decide (ds.getD u 0=48)&&z48 ((ds.drop (u+1)).take (need fl f (p.drop (i+1)))))) (bl&&(isZ fl (p.getD i 0)&&allD (isZ fl) fl f (p.drop (i+1)))) (st&&(isS (p.getD i 0)&&allD isS fl f (p.drop (i+1)))) (pre++ds.getD u 0::atL fl f (p.drop (i+1)) (ds.drop (u+1))):=by
       intro zz bb hzz hbb;unfold lEdited_k6;rw[hby,show decide (((p.getD i 0).toNat:Int)=42)=decide (p.getD i 0=42)from decide_eq_decide.2 (symN (p.getD i 0) 42 (by decide))];cases st
       ·rw[cond_false,in64 (by omega) (by omega),chk_true,in64 (by omega) (by omega),chk_true,hu1,hi1];exact fin zz bb false hzz hbb rfl
       ·rw[cond_true,ix,chk_true,in64 (by omega) (by omega),chk_true,in64 (by omega) (by omega),chk_true,hu1,hi1];exact fin zz bb _ hzz hbb rfl
      have k5:∀zz:Bool,zz=(z&&decide (ds.getD u 0=48))→lEdited_k5 N (lEdited_l2 N k) ds neg p tail (fl.toNat:Int) (u:Int) first zz bl st (i:Int) s ((pre++[ds.getD u 0])++List.replicate m 0)=
        finL N s neg p tail fl (z&&(decide (ds.getD u 0=48)&&z48 ((ds.drop (u+1)).take (need fl f (p.drop (i+1)))))) (bl&&(isZ fl (p.getD i 0)&&allD (isZ fl) fl f (p.drop (i+1)))) (st&&(isS (p.getD i 0)&&allD isS fl f (p.drop (i+1)))) (pre++ds.getD u 0::atL fl f (p.drop (i+1)) (ds.drop (u+1))):=by
       intro zz hzz;unfold lEdited_k5;rw[hby,show decide (((p.getD i 0).toNat:Int)=90)=decide (p.getD i 0=90)from decide_eq_decide.2 (symN (p.getD i 0) 90 (by decide))];cases bl
       ·rw[cond_false];exact k6 zz false hzz rfl
       ·rw[cond_true,ix,chk_true,cond_dec];by_cases h90:p.getD i 0=90
        ·rw[if_pos h90];exact k6 zz true hzz (by unfold isZ;rw[decide_eq_true h90];rfl)
        ·rw[if_neg h90,chk_true];refine k6 zz _ hzz ?_;unfold isZ;rw[decide_eq_false h90,Bool.false_or,Bool.true_and,decide_eq_decide];constructor
         ·intro e;exact UInt8.toNat_inj.1 (by omega)
         ·intro e;rw[e]
      cases z
      ·rw[cond_false];exact k5 false rfl
      ·rw[cond_true];exact k5 _ rfl
    have e57:((p.getD i 0).toNat:Int)=57↔p.getD i 0=57:=symN _ 57 (by decide);have e90:((p.getD i 0).toNat:Int)=90↔p.getD i 0=90:=symN _ 90 (by decide);have e42:((p.getD i 0).toNat:Int)=42↔p.getD i 0=42:=symN _ 42 (by decide);unfold lEdited_k3;rw[ix,chk_true,hby,cond_dec];by_cases h57:p.getD i 0=57
    ·rw[if_pos (e57.2 h57)];exact k4 true (by rw[h57];rfl)
    ·rw[if_neg (fun e=>h57 (e57.1 e)),chk_true,cond_dec];by_cases h90:p.getD i 0=90
     ·rw[if_pos (e90.2 h90)];exact k4 true (by rw[h90];rfl)
     ·rw[if_neg (fun e=>h90 (e90.1 e)),chk_true,cond_dec];by_cases h42:p.getD i 0=42
      ·rw[if_pos (e42.2 h42)];exact k4 true (by rw[h42];rfl)
      ·rw[if_neg (fun e=>h42 (e42.1 e)),chk_true];refine k4 _ ?_;unfold dig;rw[decide_eq_false h57,decide_eq_false h90,decide_eq_false h42,Bool.false_or,Bool.false_or,Bool.false_or,decide_eq_decide];constructor
       ·intro e;exact UInt8.toNat_inj.1 (by omega)
       ·intro e;rw[e]
   rw[cond_dec];by_cases hc:p.getD i 0=fl
   ·rw[if_pos (by rw[hc]),cond_dec];by_cases hfi:first<0
    ·have hf0:f=false:=by rw[hf];exact decide_eq_false (by omega)
     have hcf:p.getD i 0=fl∧f=false:=⟨hc,hf0⟩
     have hdg:dig fl (p.getD i 0)=true:=by rw[hc];exact dig_self fl
     rw[hdg,if_pos rfl,if_pos hcf]at hn;unfold need allD atL;rw[if_pos hfi,in64 (by omega) (by omega),chk_true,hi1,r0,go u true (i:Int) z bl st 0 (by rw[decide_eq_true (by omega)]) hn,if_pos hdg,if_pos hcf,if_pos hcf,if_pos hcf,if_pos hcf,List.append_assoc];rfl
    ·have hf1:f=true:=by rw[hf];exact decide_eq_true (by omega)
     rw[if_neg hfi];exact plain (by rw[hf1];rintro⟨_,e⟩;cases e)
   ·rw[if_neg (fun e=>hc (UInt8.toNat_inj.1 (by omega)))];exact plain (fun e=>hc e.1)
  ·rw[if_neg (by omega),List.drop_eq_nil_of_le (by omega),show p.length-i=0 by omega];simp only[need,allD,atL,List.take_zero,Bool.and_true,List.replicate_zero,show z48 []=true from rfl];unfold finL;cases z
   ·rw[cond_false,if_neg (by rintro⟨e,_⟩;cases e)]
   ·rw[cond_true];cases hb:s.Blank with
    |true=>rw[cond_true,if_pos ⟨rfl,.inl rfl⟩];cases lRep N [32] s.Size<;>rfl
    |false=>
     rw[cond_false];cases bl
     ·rw[cond_false,if_neg (by rintro⟨_,e|e⟩<;>cases e)]
     ·rw[cond_true,if_pos ⟨rfl,.inr rfl⟩];cases lRep N [32] s.Size<;>rfl
end Go.Proofs.C06
end
section
set_option maxRecDepth 100000
namespace Go.Proofs.C06
open Go Go.RowKit Go.Vc Go.Am Go.Dg
def nb(fl c:UInt8):Bool:=!(decide (c=90)||decide (c=42)||decide (c=fl)||decide (c=46)||decide (c=86)||decide (c=57))
def stp(c:UInt8):Bool:=decide (c=46)||decide (c=86)||decide (c=57)
def md(x:UInt8×UInt8):Bool:=!stp x.1&&(decide (x.2=0)||decide (x.2=48))
def bgV(fl:UInt8)(p:List UInt8):Nat:=(p.takeWhile (nb fl)).length
def enV(p a:List UInt8)(e:Nat):Nat:=e+(((p.drop e).zip (a.drop e)).takeWhile md).length
def chC(fl:UInt8)(star neg zs:Bool)(bg en i:Nat)(c a:UInt8):List UInt8:=if c=86 then[]else if zs=true∧c≠46 then[42]else if(bg≤i∧i<en)∧star=true then[42]else if(bg≤i∧i<en)∧fl≠0∧i+1=en then[lsg fl neg]else if(bg≤i∧i<en)∨c=66 then[32]else if a≠0 then[a]else if c=43∨c=45 then[lsg c neg]else[c]
def outL(fl:UInt8)(star neg zs:Bool)(bg en:Nat):Nat→List UInt8→List UInt8→List UInt8
 |_,[],_=>[]
 |i,c::r,a=>chC fl star neg zs bg en i c (a.headD 0)++outL fl star neg zs bg en (i+1) r a.tail
def endL(neg zs:Bool)(tail:List UInt8):List UInt8:=if zs=true then List.replicate tail.length 42 else if neg=true then tail else List.replicate tail.length 32
section
variable {N : Nat} (hN : 3000 < N) {p tail : List UInt8} {fl : UInt8} {neg z st : Bool} (hp : p.length ≤ 400) (ht : tail.length ≤ 10)
include hN hp ht
theorem lEdited_l11_is{a:List UInt8}(ha:a.length=p.length)(bg en:Nat)(hen:en≤p.length):∀(k i:Nat)(out:List UInt8),i≤p.length→p.length-i<k→out.length≤i→
  lEdited_l11 N k neg p tail (fl.toNat:Int) z st (bg:Int) (en:Int) out (i:Int) a=
   some (out++outL fl (p.contains 42) neg (z&&st) bg en i (p.drop i) (a.drop i)++endL neg (z&&st) tail)
 |0,i,out,hi,h,_=>by omega
 |k+1,i,out,hi,h,ho=>by
  show lEdited_l11_b N (lEdited_l11 N k) neg p tail (fl.toNat:Int) z st (bg:Int) (en:Int) out (i:Int) a=_;unfold lEdited_l11_b;rw[cond_dec];by_cases hlt:i<p.length
  ·have hdr:p.drop i=p.getD i 0::p.drop (i+1):=drop_cons' hlt;have hby:byteAt p (i:Int)=((p.getD i 0).toNat:Int):=rfl;have hi1:(i:Int)+1=((i+1:Nat):Int):=by omega
   have ix:inIx (i:Int) p.length=true:=inIx_iff.2 ⟨by omega,by omega⟩;have ixa:inIx (i:Int) a.length=true:=inIx_iff.2 ⟨by omega,by omega⟩;have hba:byteAt a (i:Int)=((a.getD i 0).toNat:Int):=rfl;obtain⟨d1,d2⟩:=headD_drop (ds:=a) (u:=i) (by omega);have go:=fun(out:List UInt8) ho=>lEdited_l11_is (a:=a) ha bg en hen k (i+1) out (by omega) (by omega) ho
   rw[if_pos (by omega),ix,chk_true,hby,hdr,outL,d1,d2,cond_dec];have e86:((p.getD i 0).toNat:Int)=86↔p.getD i 0=86:=symN _ 86 (by decide);have e46:((p.getD i 0).toNat:Int)=46↔p.getD i 0=46:=symN _ 46 (by decide);have e66:((p.getD i 0).toNat:Int)=66↔p.getD i 0=66:=symN _ 66 (by decide);have e43:((p.getD i 0).toNat:Int)=43↔p.getD i 0=43:=symN _ 43 (by decide);have e45:((p.getD i 0).toNat:Int)=45↔p.getD i 0=45:=symN _ 45 (by decide);generalize p.getD i 0=c at*
   generalize a.getD i 0=x at*
   by_cases h86:c=86
   ·rw[if_pos (e86.2 h86),in64 (by omega) (by omega),chk_true,hi1,go out (by omega),chC,if_pos h86];simp
   ·rw[if_neg (fun e=>h86 (e86.1 e))];have put:∀u:UInt8,chC fl (p.contains 42) neg (z&&st) bg en i c x=[u]→lEdited_l11 N k neg p tail (fl.toNat:Int) z st (bg:Int) (en:Int) (out++[u]) ((i+1:Nat):Int) a=
      some (out++(chC fl (p.contains 42) neg (z&&st) bg en i c x++outL fl (p.contains 42) neg (z&&st) bg en (i+1) (p.drop (i+1)) (a.drop (i+1)))++endL neg (z&&st) tail):=by
     intro u hu;rw[hu,go (out++[u]) (by simp;omega)];simp
    have cat:∀u:UInt8,catOk out [u]=true:=fun u=>catOk_iff.2 (by simp;omega)
    have h0:fl≠0↔(0:Int)<(fl.toNat:Int):=by
     constructor
     ·intro e;have:fl.toNat≠0:=fun h=>e (UInt8.toNat_inj.1 (by rw[h];rfl))
      omega
     ·rintro h rfl;exact absurd h (by decide)
    have k15:∀t:Bool,t=decide ((bg≤i∧i<en)∨c=66)→¬((z&&st)=true∧c≠46)→¬((bg≤i∧i<en)∧p.contains 42=true)→¬((bg≤i∧i<en)∧fl≠0∧i+1=en)→
      lEdited_k15 N (lEdited_l11 N k) neg p tail (fl.toNat:Int) z st (bg:Int) (en:Int) out (i:Int) (c.toNat:Int) t a=
      some (out++(chC fl (p.contains 42) neg (z&&st) bg en i c x++outL fl (p.contains 42) neg (z&&st) bg en (i+1) (p.drop (i+1)) (a.drop (i+1)))++endL neg (z&&st) tail):=by
     intro t ht1 n1 n2 n3;have hch:chC fl (p.contains 42) neg (z&&st) bg en i c x=if(bg≤i∧i<en)∨c=66 then[32]else if x≠0 then[x]else if c=43∨c=45 then[lsg c neg]else[c]:=by unfold chC;rw[if_neg h86,if_neg n1,if_neg n2,if_neg n3]
     unfold lEdited_k15;by_cases h1:(bg≤i∧i<en)∨c=66
     ·rw[if_pos h1]at hch;rw[ht1,decide_eq_true h1,cond_true,show([32]:List Int).map toByte=[32]from rfl,cat,chk_true,in64 (by omega) (by omega),chk_true,hi1];exact put 32 hch
     ·rw[if_neg h1]at hch;rw[ht1,decide_eq_false h1,cond_false,ixa,chk_true,chk_true,hba,cond_dec];by_cases h2:x≠0
      ·rw[if_pos h2]at hch;have hx:0<x.toNat:=by
        rcases Nat.eq_zero_or_pos x.toNat with h|h
        ·exact absurd (UInt8.toNat_inj.1 (by rw[h];rfl)) h2
        ·exact h
       rw[if_pos (by omega),chk_true,chk_true,u8_toNat,Bool.and_true,chk_true,List.map_singleton,toByte_u8,cat,chk_true,in64 (by omega) (by omega),chk_true,hi1];exact put x hch
      ·have hx:x=0:=Classical.byContradiction h2;rw[if_neg h2]at hch;rw[hx,if_neg (by decide),cond_dec];by_cases h3:c=43
       ·rw[if_pos (.inl h3)]at hch;rw[if_pos (e43.2 h3),lSign_is,bnd_of,u8_toNat,Bool.and_true,chk_true,List.map_singleton,toByte_u8,cat,chk_true,in64 (by omega) (by omega),chk_true,hi1,←hx];exact put _ hch
       ·rw[if_neg (fun e=>h3 (e43.1 e)),cond_dec];by_cases h4:c=45
        ·rw[if_pos (.inr h4)]at hch;rw[if_pos (e45.2 h4),lSign_is,bnd_of,u8_toNat,Bool.and_true,chk_true,List.map_singleton,toByte_u8,cat,chk_true,in64 (by omega) (by omega),chk_true,hi1,←hx];exact put _ hch
        ·rw[if_neg (fun e=>e.elim h3 h4)]at hch;rw[if_neg (fun e=>h4 (e45.1 e)),u8_toNat,Bool.and_true,chk_true,List.map_singleton,toByte_u8,cat,chk_true,in64 (by omega) (by omega),chk_true,hi1,←hx];exact put c hch
    have k14:∀t:Bool,t=decide ((bg≤i∧i<en)∧fl≠0∧i+1=en)→¬((z&&st)=true∧c≠46)→¬((bg≤i∧i<en)∧p.contains 42=true)→
      lEdited_k14 N (lEdited_l11 N k) neg p tail (fl.toNat:Int) z st (bg:Int) (en:Int) out (i:Int) (c.toNat:Int) t a=
      some (out++(chC fl (p.contains 42) neg (z&&st) bg en i c x++outL fl (p.contains 42) neg (z&&st) bg en (i+1) (p.drop (i+1)) (a.drop (i+1)))++endL neg (z&&st) tail):=by
     intro t ht1 n1 n2;unfold lEdited_k14;by_cases h1:(bg≤i∧i<en)∧fl≠0∧i+1=en
     ·rw[ht1,decide_eq_true h1,cond_true,lSign_is,bnd_of,u8_toNat,Bool.and_true,chk_true,List.map_singleton,toByte_u8,cat,chk_true,in64 (by omega) (by omega),chk_true,hi1];refine put _ ?_;unfold chC;rw[if_neg h86,if_neg n1,if_neg n2,if_pos h1]
     ·rw[ht1,decide_eq_false h1,cond_false,cond_dec];by_cases h2:bg≤i
      ·rw[if_pos (by omega),cond_dec];by_cases h3:i<en
       ·rw[if_pos (by omega)];exact k15 _ (by rw[decide_eq_true (by omega),decide_eq_true (.inl ⟨h2,h3⟩)]) n1 n2 h1
       ·rw[if_neg (by omega)];refine k15 _ ?_ n1 n2 h1;rw[decide_eq_decide,e66];exact⟨.inr,fun e=>e.elim (fun e=>absurd e.2 h3) id⟩
      ·rw[if_neg (by omega)];refine k15 _ ?_ n1 n2 h1;rw[decide_eq_decide,e66];exact⟨.inr,fun e=>e.elim (fun e=>absurd e.1 h2) id⟩
    have k13:∀t:Bool,t=decide ((bg≤i∧i<en)∧p.contains 42=true)→¬((z&&st)=true∧c≠46)→
      lEdited_k13 N (lEdited_l11 N k) neg p tail (fl.toNat:Int) z st (bg:Int) (en:Int) out (i:Int) (c.toNat:Int) t a=
      some (out++(chC fl (p.contains 42) neg (z&&st) bg en i c x++outL fl (p.contains 42) neg (z&&st) bg en (i+1) (p.drop (i+1)) (a.drop (i+1)))++endL neg (z&&st) tail):=by
     intro t ht1 n1;unfold lEdited_k13;by_cases h1:(bg≤i∧i<en)∧p.contains 42=true
     ·rw[ht1,decide_eq_true h1,cond_true,show([42]:List Int).map toByte=[42]from rfl,cat,chk_true,in64 (by omega) (by omega),chk_true,hi1];refine put _ ?_;unfold chC;rw[if_neg h86,if_neg n1,if_pos h1]
     ·rw[ht1,decide_eq_false h1,cond_false,cond_dec];by_cases h2:bg≤i
      ·rw[if_pos (by omega),cond_dec];by_cases h3:i<en
       ·rw[if_pos (by omega),cond_dec];by_cases h4:fl≠0
        ·rw[if_pos (h0.1 h4)];rw[in64 (by omega) (by omega),chk_true];refine k14 _ ?_ n1 h1;rw[decide_eq_decide];constructor
         ·intro e;exact⟨⟨h2,h3⟩,h4,by omega⟩
         ·rintro⟨_,_,e⟩;omega
        ·rw[if_neg (fun e=>h4 (h0.2 e))];exact k14 false (by rw[decide_eq_false (fun e=>h4 e.2.1)]) n1 h1
       ·rw[if_neg (by omega)];exact k14 false (by rw[decide_eq_false (fun e=>h3 e.1.2)]) n1 h1
      ·rw[if_neg (by omega)];exact k14 false (by rw[decide_eq_false (fun e=>h2 e.1.1)]) n1 h1
    have k12:∀t:Bool,t=decide ((z&&st)=true∧c≠46)→
      lEdited_k12 N (lEdited_l11 N k) neg p tail (fl.toNat:Int) z st (bg:Int) (en:Int) out (i:Int) (c.toNat:Int) t a=
      some (out++(chC fl (p.contains 42) neg (z&&st) bg en i c x++outL fl (p.contains 42) neg (z&&st) bg en (i+1) (p.drop (i+1)) (a.drop (i+1)))++endL neg (z&&st) tail):=by
     intro t ht1;unfold lEdited_k12;by_cases h1:(z&&st)=true∧c≠46
     ·rw[ht1,decide_eq_true h1,cond_true,show([42]:List Int).map toByte=[42]from rfl,cat,chk_true,in64 (by omega) (by omega),chk_true,hi1];refine put _ ?_;unfold chC;rw[if_neg h86,if_pos h1]
     ·rw[ht1,decide_eq_false h1,cond_false,cond_dec];by_cases h2:bg≤i
      ·rw[if_pos (by omega),cond_dec];by_cases h3:i<en
       ·have hcnt:lCnt N p 42=some ((p.count 42:Nat):Int):=lCnt_is hN hp 42;rw[if_pos (by omega),hcnt,bnd_of];refine k13 _ ?_ h1;rw[decide_eq_decide];have:p.contains 42=true↔0<p.count 42:=by rw[List.count_pos_iff];simp
        rw[this];constructor
        ·intro e;exact⟨⟨h2,h3⟩,by omega⟩
        ·rintro⟨_,e⟩;omega
       ·rw[if_neg (by omega)];exact k13 false (by rw[decide_eq_false (fun e=>h3 e.1.2)]) h1
      ·rw[if_neg (by omega)];exact k13 false (by rw[decide_eq_false (fun e=>h2 e.1.1)]) h1
    cases z
    ·rw[cond_false];exact k12 false (by simp)
    ·rw[cond_true];cases st
     ·rw[cond_false];exact k12 false (by simp)
     ·rw[cond_true];refine k12 _ ?_;rw[Bool.eq_iff_iff];simp[e46]
  ·rw[if_neg (by omega),List.drop_eq_nil_of_le (by omega)];simp only[outL,List.append_nil];have k16:(z&&st)=false→lEdited_k16 N neg tail out=some (out++endL neg (z&&st) tail):=by
    intro e;unfold lEdited_k16 endL;rw[e,if_neg (by decide)];cases neg
    ·rw[Bool.not_false,cond_true,lRep_is hN 32 (by omega),bnd_of,catOk_iff.2 (by simp;omega),chk_true];rfl
    ·rw[Bool.not_true,cond_false,catOk_iff.2 (by omega),chk_true];rfl
   cases z
   ·rw[cond_false];exact k16 rfl
   ·rw[cond_true];cases st
    ·rw[cond_false];exact k16 rfl
    ·rw[cond_true,lRep_is hN 42 (by omega),bnd_of,catOk_iff.2 (by simp;omega),chk_true];rfl
end
end Go.Proofs.C06
end
section
set_option maxRecDepth 100000
namespace Go.Proofs.C06
open Go Go.RowKit Go.Vc Go.Am Go.Dg
def spanV(fl:UInt8)(p a:List UInt8):Nat×Nat:=if bgV fl p<p.length∧stp (p.getD (bgV fl p) 0)=true then(p.length,p.length)else(bgV fl p,enV p a (bgV fl p))
theorem takeWhile_le(P:UInt8→Bool)(l:List UInt8):(l.takeWhile P).length≤l.length:=(List.takeWhile_sublist P).length_le
theorem bgV_le(fl:UInt8)(p:List UInt8):bgV fl p≤p.length:=takeWhile_le _ _
section
variable {N : Nat} (hN : 3000 < N) {p tail : List UInt8} {fl : UInt8} {neg z st : Bool} (hp : p.length ≤ 400) (ht : tail.length ≤ 10) {a : List UInt8} (ha : a.length = p.length)
include hN hp ht ha
theorem lEdited_k10_is{bg en:Nat}(hen:en≤p.length):lEdited_k10 N neg p tail (fl.toNat:Int) z st (bg:Int) (en:Int) a=
  some (outL fl (p.contains 42) neg (z&&st) bg en 0 p a++endL neg (z&&st) tail):=by
 have:=lEdited_l11_is hN hp ht (fl:=fl) (neg:=neg) (z:=z) (st:=st) ha bg en hen N 0 [] (by omega) (by omega) (by simp);unfold lEdited_k10;rw[List.drop_zero,List.drop_zero]at this;exact this
theorem lEdited_l17_is{bg:Nat}:∀(k e:Nat),e≤p.length→p.length-e<k→
  lEdited_l17 N k neg p tail (fl.toNat:Int) z st (bg:Int) (e:Int) a=
   some (outL fl (p.contains 42) neg (z&&st) bg (enV p a e) 0 p a++endL neg (z&&st) tail)
 |0,e,he,h=>by omega
 |k+1,e,he,h=>by
  show lEdited_l17_b N (lEdited_l17 N k) neg p tail (fl.toNat:Int) z st (bg:Int) (e:Int) a=_;unfold lEdited_l17_b;have stop:enV p a e=e→lEdited_k10 N neg p tail (fl.toNat:Int) z st (bg:Int) (e:Int) a=some (outL fl (p.contains 42) neg (z&&st) bg (enV p a e) 0 p a++endL neg (z&&st) tail):=by intro hh;rw[hh];exact lEdited_k10_is hN hp ht ha he
  rw[cond_dec];by_cases hlt:e<p.length
  ·have hdr:p.drop e=p.getD e 0::p.drop (e+1):=drop_cons' hlt;have hda:a.drop e=a.getD e 0::a.drop (e+1):=drop_cons' (by omega);have hby:byteAt p (e:Int)=((p.getD e 0).toNat:Int):=rfl;have hi1:(e:Int)+1=((e+1:Nat):Int):=by omega
   have ix:inIx (e:Int) p.length=true:=inIx_iff.2 ⟨by omega,by omega⟩;have ixa:inIx (e:Int) a.length=true:=inIx_iff.2 ⟨by omega,by omega⟩;have hba:byteAt a (e:Int)=((a.getD e 0).toNat:Int):=rfl;have go:=lEdited_l17_is (bg:=bg) k (e+1) (by omega) (by omega);have hen:enV p a e=if md (p.getD e 0,a.getD e 0)=true then enV p a (e+1)else e:=by
    unfold enV;rw[hdr,hda,List.zip_cons_cons,List.takeWhile_cons];split
    ·rw[List.length_cons];omega
    ·rfl
   have e86:((p.getD e 0).toNat:Int)=86↔p.getD e 0=86:=symN _ 86 (by decide);have e46:((p.getD e 0).toNat:Int)=46↔p.getD e 0=46:=symN _ 46 (by decide);have e57:((p.getD e 0).toNat:Int)=57↔p.getD e 0=57:=symN _ 57 (by decide);have a0:((a.getD e 0).toNat:Int)=0↔a.getD e 0=0:=symN _ 0 (by decide);have a48:((a.getD e 0).toNat:Int)=48↔a.getD e 0=48:=symN _ 48 (by decide);rw[if_pos (by omega),ix,chk_true,hby,hba,ixa,chk_true,chk_true,chk_true,chk_true,chk_true,chk_true];have hmd:md (p.getD e 0,a.getD e 0)=true↔(p.getD e 0≠46∧p.getD e 0≠86∧p.getD e 0≠57)∧(a.getD e 0=0∨a.getD e 0=48):=by unfold md stp;simp only[Bool.and_eq_true,Bool.not_eq_true',Bool.or_eq_false_iff,decide_eq_false_iff_not,Bool.or_eq_true,decide_eq_true_eq,and_assoc,ne_eq]
   generalize p.getD e 0=c at*
   generalize a.getD e 0=x at*
   rw[cond_ndec];by_cases h1:c=46
   ·rw[if_pos (e46.2 h1)];exact stop (by rw[hen,if_neg (fun h=>(hmd.1 h).1.1 h1)])
   ·rw[if_neg (fun h=>h1 (e46.1 h)),cond_ndec];by_cases h2:c=86
    ·rw[if_pos (e86.2 h2)];exact stop (by rw[hen,if_neg (fun h=>(hmd.1 h).1.2.1 h2)])
    ·rw[if_neg (fun h=>h2 (e86.1 h)),cond_ndec];by_cases h3:c=57
     ·rw[if_pos (e57.2 h3)];exact stop (by rw[hen,if_neg (fun h=>(hmd.1 h).1.2.2 h3)])
     ·rw[if_neg (fun h=>h3 (e57.1 h)),cond_dec];by_cases h4:x=0
      ·rw[if_pos (a0.2 h4),in64 (by omega) (by omega),chk_true,hi1,go,hen,if_pos (hmd.2 ⟨⟨h1,h2,h3⟩,.inl h4⟩)]
      ·rw[if_neg (fun h=>h4 (a0.1 h)),cond_dec];by_cases h5:x=48
       ·rw[if_pos (a48.2 h5),in64 (by omega) (by omega),chk_true,hi1,go,hen,if_pos (hmd.2 ⟨⟨h1,h2,h3⟩,.inr h5⟩)]
       ·rw[if_neg (fun h=>h5 (a48.1 h))];exact stop (by rw[hen,if_neg (fun h=>(hmd.1 h).2.elim h4 h5)])
  ·rw[if_neg (by omega)];refine stop ?_;unfold enV;rw[List.drop_eq_nil_of_le (by omega)];simp
theorem lEdited_k8_is:lEdited_k8 N neg p tail (fl.toNat:Int) z st ((bgV fl p:Nat):Int) a=
  some (outL fl (p.contains 42) neg (z&&st) (spanV fl p a).1 (spanV fl p a).2 0 p a++endL neg (z&&st) tail):=by
 have hb:=bgV_le fl p;have k9:∀bg e:Nat,e≤p.length→spanV fl p a=(bg,enV p a e)→lEdited_k9 N neg p tail (fl.toNat:Int) z st (bg:Int) (e:Int) a=
   some (outL fl (p.contains 42) neg (z&&st) (spanV fl p a).1 (spanV fl p a).2 0 p a++endL neg (z&&st) tail):=by
  intro bg e he hs;rw[hs];exact lEdited_l17_is hN hp ht ha N e he (by omega)
 have hall:enV p a p.length=p.length:=by unfold enV;rw[List.drop_eq_nil_of_le (Nat.le_refl _)];simp
 unfold lEdited_k8;have hs:spanV fl p a=if bgV fl p<p.length∧stp (p.getD (bgV fl p) 0)=true then(p.length,p.length)else(bgV fl p,enV p a (bgV fl p)):=rfl
 generalize bgV fl p=b at*
 rw[cond_dec];by_cases hlt:b<p.length
 ·have hby:byteAt p (b:Int)=((p.getD b 0).toNat:Int):=rfl;have ix:inIx (b:Int) p.length=true:=inIx_iff.2 ⟨by omega,by omega⟩;have e86:((p.getD b 0).toNat:Int)=86↔p.getD b 0=86:=symN _ 86 (by decide);have e46:((p.getD b 0).toNat:Int)=46↔p.getD b 0=46:=symN _ 46 (by decide);have e57:((p.getD b 0).toNat:Int)=57↔p.getD b 0=57:=symN _ 57 (by decide);have hst:stp (p.getD b 0)=true↔p.getD b 0=46∨p.getD b 0=86∨p.getD b 0=57:=by unfold stp;simp only[Bool.or_eq_true,decide_eq_true_eq,or_assoc]
  rw[if_pos (by omega),ix,chk_true,hby,chk_true,chk_true];have all:stp (p.getD b 0)=true→lEdited_k9 N neg p tail (fl.toNat:Int) z st (p.length:Int) (p.length:Int) a=
   some (outL fl (p.contains 42) neg (z&&st) (spanV fl p a).1 (spanV fl p a).2 0 p a++endL neg (z&&st) tail):=fun h=>
   k9 p.length p.length (Nat.le_refl _) (by rw[hs,if_pos ⟨hlt,h⟩,hall])
  rw[cond_dec];by_cases h1:p.getD b 0=46
  ·rw[if_pos (e46.2 h1)];exact all (hst.2 (.inl h1))
  ·rw[if_neg (fun h=>h1 (e46.1 h)),cond_dec];by_cases h2:p.getD b 0=86
   ·rw[if_pos (e86.2 h2)];exact all (hst.2 (.inr (.inl h2)))
   ·rw[if_neg (fun h=>h2 (e86.1 h)),cond_dec];by_cases h3:p.getD b 0=57
    ·rw[if_pos (e57.2 h3)];exact all (hst.2 (.inr (.inr h3)))
    ·rw[if_neg (fun h=>h3 (e57.1 h))];exact k9 b b hb (by rw[hs,if_neg (fun h=>(hst.1 h.2).elim h1 (fun h=>h.elim h2 h3))])
 ·rw[if_neg (by omega)];exact k9 b b hb (by rw[hs,if_neg (fun h=>hlt h.1)])
theorem lEdited_l18_is:∀(k b:Nat),b≤p.length→p.length-b<k→bgV fl p=b+((p.drop b).takeWhile (nb fl)).length→
  lEdited_l18 N k neg p tail (fl.toNat:Int) z st (b:Int) a=
   some (outL fl (p.contains 42) neg (z&&st) (spanV fl p a).1 (spanV fl p a).2 0 p a++endL neg (z&&st) tail)
 |0,b,hb,h,_=>by omega
 |k+1,b,hb,h,hbg=>by
  show lEdited_l18_b N (lEdited_l18 N k) neg p tail (fl.toNat:Int) z st (b:Int) a=_;unfold lEdited_l18_b;have stop:bgV fl p=b→lEdited_k8 N neg p tail (fl.toNat:Int) z st (b:Int) a=some (outL fl (p.contains 42) neg (z&&st) (spanV fl p a).1 (spanV fl p a).2 0 p a++endL neg (z&&st) tail):=by intro hh;have:=lEdited_k8_is hN hp ht ha (fl:=fl) (neg:=neg) (z:=z) (st:=st);rw[hh]at this;exact this
  rw[cond_dec];by_cases hlt:b<p.length
  ·have hdr:p.drop b=p.getD b 0::p.drop (b+1):=drop_cons' hlt;have hby:byteAt p (b:Int)=((p.getD b 0).toNat:Int):=rfl;have hi1:(b:Int)+1=((b+1:Nat):Int):=by omega
   have ix:inIx (b:Int) p.length=true:=inIx_iff.2 ⟨by omega,by omega⟩;have e86:((p.getD b 0).toNat:Int)=86↔p.getD b 0=86:=symN _ 86 (by decide);have e46:((p.getD b 0).toNat:Int)=46↔p.getD b 0=46:=symN _ 46 (by decide);have e57:((p.getD b 0).toNat:Int)=57↔p.getD b 0=57:=symN _ 57 (by decide);have e90:((p.getD b 0).toNat:Int)=90↔p.getD b 0=90:=symN _ 90 (by decide);have e42:((p.getD b 0).toNat:Int)=42↔p.getD b 0=42:=symN _ 42 (by decide);have efl:((p.getD b 0).toNat:Int)=(fl.toNat:Int)↔p.getD b 0=fl:=⟨fun e=>UInt8.toNat_inj.1 (by omega),fun e=>by rw[e]⟩
   have go:=lEdited_l18_is k (b+1) (by omega) (by omega);rw[hdr,List.takeWhile_cons]at hbg;rw[if_pos (by omega),ix,chk_true,hby,chk_true,chk_true,chk_true,chk_true,chk_true];have hnb:nb fl (p.getD b 0)=true↔p.getD b 0≠90∧p.getD b 0≠42∧p.getD b 0≠fl∧p.getD b 0≠46∧p.getD b 0≠86∧p.getD b 0≠57:=by unfold nb;simp only[Bool.not_eq_true',Bool.or_eq_false_iff,decide_eq_false_iff_not,and_assoc,ne_eq]
   generalize p.getD b 0=c at*
   have no:nb fl c≠true→bgV fl p=b:=fun h=>by rw[hbg,if_neg h];rfl
   rw[cond_ndec];by_cases h1:c=90
   ·rw[if_pos (e90.2 h1)];exact stop (no fun h=>(hnb.1 h).1 h1)
   ·rw[if_neg (fun h=>h1 (e90.1 h)),cond_ndec];by_cases h2:c=42
    ·rw[if_pos (e42.2 h2)];exact stop (no fun h=>(hnb.1 h).2.1 h2)
    ·rw[if_neg (fun h=>h2 (e42.1 h)),cond_ndec];by_cases h3:c=fl
     ·rw[if_pos (efl.2 h3)];exact stop (no fun h=>(hnb.1 h).2.2.1 h3)
     ·rw[if_neg (fun h=>h3 (efl.1 h)),cond_ndec];by_cases h4:c=46
      ·rw[if_pos (e46.2 h4)];exact stop (no fun h=>(hnb.1 h).2.2.2.1 h4)
      ·rw[if_neg (fun h=>h4 (e46.1 h)),cond_ndec];by_cases h5:c=86
       ·rw[if_pos (e86.2 h5)];exact stop (no fun h=>(hnb.1 h).2.2.2.2.1 h5)
       ·rw[if_neg (fun h=>h5 (e86.1 h)),cond_ndec];by_cases h6:c=57
        ·rw[if_pos (e57.2 h6)];exact stop (no fun h=>(hnb.1 h).2.2.2.2.2 h6)
        ·rw[if_neg (fun h=>h6 (e57.1 h)),in64 (by omega) (by omega),chk_true,hi1];refine go ?_;rw[hbg,if_pos (hnb.2 ⟨h1,h2,h3,h4,h5,h6⟩),List.length_cons];omega
  ·rw[if_neg (by omega)];refine stop ?_;rw[hbg,List.drop_eq_nil_of_le (by omega)];simp
theorem lEdited_k7_is:lEdited_k7 N neg p tail (fl.toNat:Int) z st a=some (outL fl (p.contains 42) neg (z&&st) (spanV fl p a).1 (spanV fl p a).2 0 p a++endL neg (z&&st) tail):=
 lEdited_l18_is hN hp ht ha N 0 (by omega) (by omega) (by rw[List.drop_zero];unfold bgV;omega)
end
theorem atL_len(fl:UInt8):∀(f:Bool)(p ds:List UInt8),(atL fl f p ds).length=p.length
 |_,[],_=>rfl
 |f,c::r,ds=>by
  unfold atL;split
  ·rw[List.length_cons,List.length_cons,atL_len fl true r ds]
  ·split
   ·rw[List.length_cons,List.length_cons,atL_len fl f r _]
   ·rw[List.length_cons,List.length_cons,atL_len fl f r ds]
def defE(s:Shape)(ds:List UInt8)(neg:Bool):List UInt8:=if z48 (ds.take (need (flS s) false (edBody s.Picture)))=true∧(s.Blank=true∨allD (isZ (flS s)) (flS s) false (edBody s.Picture)=true)then List.replicate s.Size.toNat 32 else outL (flS s) ((edBody s.Picture).contains 42) neg (z48 (ds.take (need (flS s) false (edBody s.Picture)))&&allD isS (flS s) false (edBody s.Picture)) (spanV (flS s) (edBody s.Picture) (atL (flS s) false (edBody s.Picture) ds)).1 (spanV (flS s) (edBody s.Picture) (atL (flS s) false (edBody s.Picture) ds)).2 0 (edBody s.Picture) (atL (flS s) false (edBody s.Picture) ds)++endL neg (z48 (ds.take (need (flS s) false (edBody s.Picture)))&&allD isS (flS s) false (edBody s.Picture)) (edTail s.Picture)
theorem lEdited_l1_is{N:Nat}(hN:3000<N){s:Shape}{ds p tail:List UInt8}{neg:Bool}(hp:p.length≤400):
  lEdited_l1 N N ds neg p tail 0 0 s=lEdited_l2 N N ds neg p tail ((flo p).toNat:Int) 0 (-1) true true true 0 s (List.replicate p.length 0):=by
 obtain⟨m,rfl⟩:∃m,N=m+4:=⟨N-4,by omega⟩
 have hc:∀c:UInt8,lCnt (m+4) p (c.toNat:Int)=some ((p.count c:Nat):Int):=fun c=>lCnt_is hN hp c
 have fin:∀(k:Nat)(fl:UInt8),fl=flo p→lEdited_l1 (m+4) (k+1) ds neg p tail (fl.toNat:Int) 3 s=lEdited_l2 (m+4) (m+4) ds neg p tail ((flo p).toNat:Int) 0 (-1) true true true 0 s (List.replicate p.length 0):=by
  rintro k _ rfl;show lEdited_l1_b (m+4) (lEdited_l1 (m+4) k) ds neg p tail ((flo p).toNat:Int) 3 s=_;unfold lEdited_l1_b;have hm:mkOk 1 (p.length:Int)=true:=by show(Nat.ble (1*p.length) 281474976710656&&Nat.ble p.length 9223372036854775807)=true;simp only[Bool.and_eq_true,Nat.ble_eq];omega
  rw[show decide ((3:Int)<3)=false from rfl,cond_false,hm,decide_eq_true rfl,Bool.true_and,chk_true,Int.toNat_natCast]
 have step:∀(k i:Nat)(c fl:UInt8),i<3→([36,43,45]:List UInt8).getD i 0=c→lEdited_l1 (m+4) (k+1) ds neg p tail (fl.toNat:Int) (i:Int) s=
   lEdited_l1 (m+4) k ds neg p tail (((if 1<p.count c then c else fl:UInt8).toNat:Nat):Int) ((i+1:Nat):Int) s:=by
  intro k i c fl hi hci;show lEdited_l1_b (m+4) (lEdited_l1 (m+4) k) ds neg p tail (fl.toNat:Int) (i:Int) s=_;unfold lEdited_l1_b;have hby:byteAt ([36,43,45]:List UInt8) (i:Int)=(c.toNat:Int):=by rw[←hci];rfl
  rw[cond_dec,if_pos (by omega),inIx_iff.2 ⟨by omega,by show(i:Int)<3;omega⟩,chk_true,hby,hc,bnd_of,cond_dec,show(i:Int)+1=((i+1:Nat):Int)by omega];by_cases h:1<p.count c
  ·rw[if_pos (by omega),in64 (by omega) (by omega),chk_true,if_pos h]
  ·rw[if_neg (by omega),in64 (by omega) (by omega),chk_true,if_neg h]
 have h0:=step (m+3) 0 36 0 (by omega) rfl;have h1:=step (m+2) 1 43 (if 1<p.count 36 then 36 else 0) (by omega) rfl;have h2:=step (m+1) 2 45 (if 1<p.count 43 then 43 else if 1<p.count 36 then 36 else 0) (by omega) rfl;exact h0.trans (h1.trans (h2.trans (fin m _ rfl)))
theorem lEdited_is{N:Nat}(hN:3000<N){s:Shape}{ds:List UInt8}{neg:Bool}(hp:s.Picture.length≤400)(hds:ds.length≤1000)(hn:need (flS s) false (edBody s.Picture)≤ds.length)(hz:0≤s.Size)(hz2:s.Size≤1000):
  lEdited N ds neg s=some (defE s ds neg):=by
 have hbl:=edBody_len s.Picture;have htl:=edTail_len s.Picture;have k0:lEdited_k0 N ds neg (edBody s.Picture) (edTail s.Picture) s=some (defE s ds neg):=by
  unfold lEdited_k0;rw[lEdited_l1_is hN (by omega)];have h:=lEdited_l2_is hN (s:=s) (ds:=ds) (p:=edBody s.Picture) (tail:=edTail s.Picture) (fl:=flS s) (neg:=neg) (by omega) hds N 0 0 false (-1) true true true [] rfl (by omega) (by omega) rfl (by rw[List.drop_zero];omega);rw[List.drop_zero,List.drop_zero,Nat.sub_zero,List.nil_append,List.nil_append,Bool.true_and,Bool.true_and,Bool.true_and]at h;refine h.trans ?_;unfold finL defE;split
  ·obtain⟨m,hm⟩:=Int.eq_ofNat_of_zero_le hz;rw[hm,lRep_is hN 32 (by omega),Int.toNat_natCast]
  ·rw[lEdited_k7_is hN (by omega) (by omega) (atL_len _ _ _ _)]
 have he:∀n:Nat,2≤s.Picture.length→n=s.Picture.length-2→dropI s.Picture ((s.Picture.length:Int)-2)=tail2 s.Picture:=by rintro n h rfl;rw[show(s.Picture.length:Int)-2=((s.Picture.length-2:Nat):Int)by omega];rfl
 have k19:∀t:Bool,(t=true→2≤s.Picture.length)→t=decide (tail2 s.Picture=[67,82]∨tail2 s.Picture=[68,66])→lEdited_k19 N ds neg s.Picture [] ((s.Picture.length:Int)-2) t s=some (defE s ds neg):=by
  intro t h2 ht;unfold lEdited_k19;cases t
  ·have hb:¬(tail2 s.Picture=[67,82]∨tail2 s.Picture=[68,66]):=of_decide_eq_false ht.symm;have e1:edBody s.Picture=s.Picture:=by unfold edBody;rw[if_neg hb]
   have e2:edTail s.Picture=[]:=by unfold edTail;rw[if_neg hb]
   rw[e1,e2]at k0;rw[cond_false,k0]
  ·have hb:tail2 s.Picture=[67,82]∨tail2 s.Picture=[68,66]:=of_decide_eq_true ht.symm;have h2:=h2 rfl;have e1:edBody s.Picture=s.Picture.take (s.Picture.length-2):=by unfold edBody;rw[if_pos hb]
   have e2:edTail s.Picture=tail2 s.Picture:=by unfold edTail;rw[if_pos hb]
   rw[cond_true,inSub_iff.2 ⟨by omega,by omega,by omega⟩,chk_true,inSub_iff.2 ⟨by omega,by omega,by omega⟩,chk_true,he _ h2 rfl,
    show takeI s.Picture ((s.Picture.length:Int)-2)=edBody s.Picture by rw[e1,show(s.Picture.length:Int)-2=((s.Picture.length-2:Nat):Int)by omega];rfl,←e2,k0]
 unfold lEdited;rw[in64 (by omega) (by omega),chk_true,cond_dec];by_cases h2:2≤s.Picture.length
 ·rw[if_pos (by omega),inSub_iff.2 ⟨by omega,by omega,by omega⟩,chk_true,he _ h2 rfl,cond_dec];by_cases h3:tail2 s.Picture=[67,82]
  ·rw[if_pos h3];exact k19 true (fun _=>h2) (decide_eq_true (.inl h3)).symm
  ·rw[if_neg h3,chk_true];refine k19 _ (fun _=>h2) ?_;rw[decide_eq_decide];exact⟨.inr,fun e=>e.elim (fun e=>absurd e h3) id⟩
 ·rw[if_neg (by omega)];refine k19 false (fun e=>by cases e) (decide_eq_false ?_).symm;rintro(e|e);all_goals
   have:=congrArg List.length e;unfold tail2 at this;rw[List.length_drop]at this;simp at this;omega
end Go.Proofs.C06
end
