/-
  A part of the proof of the laws.
-/
import Derived.Lib.SlTrimSet
import Derived.Lib.Strings
import Derived.Test.YtannhfbidakffaaGreatDoorS2
import Derived.Test.YtannhfbidakffaaGreatDoorPa
import Derived.Laws.Entries
import Derived.Test.YtannhfbidakffaaGreatDoorS4
set_option maxRecDepth 100000
namespace Go.Dg
def Digs(l:uAU):Prop:=∀c∈l,48<=c.toNat/\c.toNat<=57
instance(l:uAU):Decidable (Digs l):=by unfold Digs;infer_instance
theorem Digs.nil:Digs []:=by simp[Digs]
theorem Digs.cons{c:UInt8}{l:uAU}:Digs (c::l)↔(48<=c.toNat/\c.toNat<=57)/\Digs l:=by simp[Digs]
theorem Digs.append{a b:uAU}:Digs (a++b)↔Digs a/\Digs b:=by
 unfold Digs
 grind
theorem Digs.take{l:uAU}(h:Digs l)(n:Nat):Digs (l.take n):=fun c hc=>h c (uAC hc)
theorem Digs.drop{l:uAU}(h:Digs l)(n:Nat):Digs (l.drop n):=fun c hc=>h c (List.mem_of_mem_drop hc)
theorem Digs.zeros(n:Nat):Digs (List.replicate n 48):=fun c hc=>by simp_all
def val(l:uAU):Nat:=l.foldl (fun a c=>10*a+(c.toNat-48)) 0
theorem W9:∀(l:uAU)(a:Nat),l.foldl (fun a c=>10*a+(c.toNat-48)) a=a*10^l.length+val l
 |[],a=>by simp[val]
 |c::l,a=>by
  have j:=W9 l (10*a+(c.toNat-48));have H:=W9 l (10*0+(c.toNat-48));have B:val (c::l)=l.foldl (fun a c=>10*a+(c.toNat-48)) (10*0+(c.toNat-48)):=rfl
  grind
theorem zb0:val []=0:=rfl
theorem jO(c:UInt8)(l:uAU):val (c::l)=(c.toNat-48)*10^l.length+val l:=by
 have:=W9 l (10*0+(c.toNat-48));have j:val (c::l)=l.foldl (fun a c=>10*a+(c.toNat-48)) (10*0+(c.toNat-48)):=rfl
 grind
theorem ZE(a b:uAU):val (a++b)=val a*10^b.length+val b:=by
 have:val (a++b)=b.foldl (fun a c=>10*a+(c.toNat-48)) (val a):=by
  unfold val
  grind
 rw[this,W9]
theorem Ya(l:uAU)(c:UInt8):val (l++[c])=10*val l+(c.toNat-48):=by rw[ZE,jO,zb0];simp;omega
theorem pow_pos(n:Nat):0<10^n:=Nat.pow_pos dE
theorem jv:∀{l:uAU},Digs l->val l<10^l.length
 |[],_=>by simp[val]
 |c::l,h=>by rw[Digs.cons]at h;have j:=jv h.2;rw[jO,mM,Nat.pow_succ];have:(c.toNat-48)*10^l.length<=9*10^l.length:=nC _ oM;omega
theorem Wx:∀n,val (List.replicate n 48)=0
 |0=>rfl
 |n+1=>by rw[List.replicate_succ,jO,Wx n];simp
theorem yW(n:Nat)(l:uAU):val (List.replicate n 48++l)=val l:=by rw[ZE,Wx];simp
theorem jM(l:uAU)(n:Nat):val (l++List.replicate n 48)=val l*10^n:=by rw[ZE,Wx,mK];simp
theorem znG{l:uAU}(h:Digs l)(H:val l=0):∀c∈l,c=48:=by
 induction l with
 |nil=>simp
 |cons c l J=>
  rw[Digs.cons]at h;rw[jO]at H;have hp:=pow_pos l.length;have B:(c.toNat-48)*10^l.length=0:=oM
  have I:c.toNat-48=0:=by
   rcases Nat.mul_eq_zero.1 B with h|h
   ·exact h
   ·omega
  intro x j;rcases nB.1 j with rfl|j
  ·apply UInt8.toNat_inj.1
   grind
  ·grind
theorem zwa{l:uAU}(h:∀c∈l,c=48):val l=0:=by rw[List.eq_replicate_of_mem h,Wx]
theorem zwy{a b x y P:Nat}(H:x<P)(B:y<P)(h:a*P+x=b*P+y):a=b/\x=y:=by
 have j:a=b:=by
  rcases Nat.lt_trichotomy a b with h'|h'|h'
  ·have:=nC P (show a+1<=b from h')
   grind
  ·exact h'
  ·have:=nC P (show b+1<=a from h')
   grind
 grind
theorem zk2:∀{a b:uAU},Digs a->Digs b->a.length=b.length->val a=val b->a=b
 |[],[],_,_,_,_=>rfl
 |[],_::_,_,_,h,_=>by simp at h
 |_::_,[],_,_,h,_=>by simp at h
 |x::a,y::b,ha,hb,hl,h=>by
  rw[Digs.cons]at ha hb;simp only[mM,Nat.add_right_cancel_iff]at hl;rw[jO,jO,hl]at h;have j:=jv ha.2;rw[hl]at j;obtain⟨H,B⟩:=zwy j (jv hb.2) h;rw[zk2 ha.2 hb.2 hl B];have:x.toNat=y.toNat:=oM
  rw[UInt8.toNat_inj.1 this]
theorem ju{l:uAU}(h:Digs l){m:Nat}(B:m<=l.length):val (l.take (l.length-m))=val l/10^m/\val (l.drop (l.length-m))=val l%10^m:=by
 have e:val l=val (l.take (l.length-m))*10^m+val (l.drop (l.length-m)):=by
  have:=ZE (l.take (l.length-m)) (l.drop (l.length-m));rw[mW,mP]at this
  grind
 have j:val (l.drop (l.length-m))<10^m:=by
  have:=jv (h.drop (l.length-m))
  grind
 have hp:=pow_pos m;constructor
 ·rw[e,Nat.mul_comm,Nat.mul_add_div hp,Nat.div_eq_of_lt j,uAa]
 ·rw[e,Nat.mul_comm,Nat.mul_add_mod,nV j]
def fmt:Nat->Nat->uAU
 |0,_=>[]
 |n+1,v=>fmt n (v/10)++[UInt8.ofNat (48+v%10)]
theorem zM:∀n v,(fmt n v).length=n
 |0,_=>rfl
 |n+1,v=>by rw[fmt,mO,zM n];rfl
theorem Xu{d:Nat}(h:d<10):(UInt8.ofNat (48+d)).toNat=48+d:=by rw[UInt8.toNat_ofNat'];omega
theorem jZ:∀n v,Digs (fmt n v)
 |0,_=>Digs.nil
 |n+1,v=>by rw[fmt,Digs.append,Digs.cons];refine⟨jZ n _,?_,Digs.nil⟩;rw[Xu (Nat.mod_lt _ dE)];omega
theorem qX:∀n v,v<10^n->val (fmt n v)=v
 |0,v,h=>by
  have:v=0:=by simpa using h
  rw[this];rfl
 |n+1,v,h=>by rw[fmt,Ya,qX n (v/10) (by rw[Nat.pow_succ]at h;omega),Xu (Nat.mod_lt _ dE)];omega
theorem ztT{l:uAU}(h:Digs l):fmt l.length (val l)=l:=
 zk2 (jZ _ _) h (zM _ _) (qX _ _ (jv h))
theorem zrF{l:uAU}{n v:Nat}(h:Digs l)(j:l.length=n)(hv:val l=v):l=fmt n v:=by subst j hv;exact (ztT h).symm
def tz(l:uAU):uAU:=l.dropWhile (· ==48)
theorem zb5(c:UInt8)(l:uAU):tz (c::l)=if c=48 then tz l else c::l:=by
 unfold tz;rw[List.dropWhile_cons]
 grind
theorem zzj(l:uAU):Lib.trimLeftS l [48]=tz l:=by
 unfold Lib.trimLeftS tz
 grind
theorem K4:∀l,val (tz l)=val l
 |[]=>rfl
 |c::l=>by
  rw[zb5];split
  ·rename_i h;subst h;rw[K4 l,jO];simp
  ·rfl
theorem Digs.tz{l:uAU}(h:Digs l):Digs (tz l):=fun c hc=>h c ((List.dropWhile_sublist _).subset hc)
theorem zC2(l:uAU):(tz l).length<=l.length:=(List.dropWhile_sublist _).length_le
theorem zfy{l:uAU}{c:UInt8}{r:uAU}(h:tz l=c::r):c≠48:=by
 induction l with
 |nil=>cases h
 |cons x l j=>
  rw[zb5]at h;split at h
  ·exact j h
  ·grind
theorem za1{l:uAU}(h:Digs l):tz l=[]↔val l=0:=by
 constructor
 ·intro e;rw[<-K4,e];rfl
 ·intro e;rcases hl:tz l with _|⟨c,r⟩
  ·rfl
  ·have:=znG h.tz (by rw[K4];exact e) c (by rw[hl];simp);exact absurd this (zfy hl)
theorem zdp{l:uAU}(h:Digs l)(H:val l≠0):10^((tz l).length-1)<=val l/\val l<10^(tz l).length/\1<=(tz l).length:=by
 have j:=h.tz;have e:=K4 l;rcases hl:tz l with _|⟨c,r⟩
 ·exact absurd ((za1 h).1 hl) H
 ·have hc:=zfy hl;rw[hl]at j e;refine⟨?_,by rw[<-e];exact jv j,sI⟩;rw[<-e,jO,mM,Nat.add_sub_cancel];rw[Digs.cons]at j;have B:1<=c.toNat-48:=by
   have:c.toNat≠48:=fun h=>hc (UInt8.toNat_inj.1 h)
   omega
  have:=nC (10^r.length) B;omega
theorem zEn{a b:uAU}(ha:Digs a)(B:Digs b)(h:val a=val b):tz a=tz b:=by
 by_cases j:val a=0
 ·rw[(za1 ha).2 j,(za1 B).2 (h▸j)]
 ·obtain⟨U,I,S⟩:=zdp ha j;obtain⟨b1,J,O⟩:=zdp B (h▸j);refine zk2 ha.tz B.tz ?_ (by rw[K4,K4,h]);rcases Nat.lt_trichotomy (tz a).length (tz b).length with H|H|H
  ·have:=Nat.pow_le_pow_right (show 0<10 by decide) (show(tz a).length<=(tz b).length-1 by omega);omega
  ·exact H
  ·have:=Nat.pow_le_pow_right (show 0<10 by decide) (show(tz b).length<=(tz a).length-1 by omega);omega
def dstr(v:Nat):uAU:=tz (fmt v v)
theorem Yw(v:Nat):v<10^v:=Nat.lt_pow_self dE
theorem Xp(v:Nat):Digs (dstr v):=(jZ v v).tz
theorem Yb(v:Nat):val (dstr v)=v:=by unfold dstr;rw[K4,qX v v (Yw v)]
theorem zir{l:uAU}(h:Digs l):dstr (val l)=tz l:=
 zEn (jZ _ _) h (qX _ _ (Yw _))
theorem zlb(v:Nat):tz (dstr v)=dstr v:=by have:=zir (Xp v);rw[Yb]at this;exact this.symm
theorem zis{v:Nat}:dstr v=[]↔v=0:=by rw[<-zlb,za1 (Xp v),Yb]
theorem zm3{l:uAU}(h:Digs l)(j:∀c r,l=c::r->c≠48):dstr (val l)=l:=by
 rw[zir h];cases l with
 |nil=>rfl
 |cons c r=>rw[zb5,if_neg (j c r rfl)]
theorem zpt{v:Nat}(h:v≠0):10^((dstr v).length-1)<=v/\v<10^(dstr v).length/\1<=(dstr v).length:=by have:=zdp (Xp v) (by rw[Yb];exact h);rwa [Yb,zlb]at this
theorem zps{v n:Nat}(h:v<10^n):(dstr v).length<=n:=by
 by_cases B:v=0
 ·subst B;rw[zis.2 rfl];simp
 ·obtain⟨H,_,I⟩:=zpt B;rcases Nat.lt_or_ge n (dstr v).length with j|j
  ·have:=Nat.pow_le_pow_right (show 0<10 by decide) (show n<=(dstr v).length-1 by omega);omega
  ·exact j
def zX:Nat->Nat->Nat×Nat
 |0,v=>(v,0)
 |s+1,v=>if v%10=0 then zX s (v/10)else(v,s+1)
theorem qx:∀(s v:Nat),v=(zX s v).1*10^(s-(zX s v).2)/\(zX s v).2<=s/\((zX s v).2=0\/(zX s v).1%10≠0)
 |0,v=>⟨by simp[zX],mH _,.inl rfl⟩
 |s+1,v=>by
  by_cases h:v%10=0
  ·have e:zX (s+1) v=zX s (v/10):=by rw[zX,if_pos h]
   obtain⟨j,H,B⟩:=qx s (v/10);rw[e];refine⟨?_,oM,B⟩;rw[show s+1-(zX s (v/10)).2=(s-(zX s (v/10)).2)+1 by omega,Nat.pow_succ,<-Nat.mul_assoc,<-j];omega
  ·have e:zX (s+1) v=(v,s+1):=by rw[zX,if_neg h]
   grind
theorem znY{s v:Nat}(h:v≠0):(zX s v).1≠0:=fun e=>by
 have:=(qx s v).1
 grind
def canon(neg:Bool)(v s:Nat):Bool×uAU×Nat:=if v=0 then(false,[48],0)else(neg,dstr (zX s v).1,(zX s v).2)
theorem qE(neg:Bool)(s:Nat):canon neg 0 s=(false,[48],0):=by unfold canon;rw[if_pos rfl]
theorem XB(neg:Bool)(v s:Nat):val (canon neg v s).2.1*10^s=v*10^(canon neg v s).2.2:=by
 unfold canon;split
 ·rename_i h;subst h;simp[val]
 ·obtain⟨j,B,_⟩:=qx s v;dsimp only;rw[Yb];have:10^s=10^(s-(zX s v).2)*10^(zX s v).2:=by rw[<-Nat.pow_add];congr 1;omega
  rw[this,<-Nat.mul_assoc,<-j]
theorem ji(neg:Bool)(v s:Nat):(canon neg v s).2.2<=s:=by
 unfold canon;split
 ·grind
 ·exact (qx s v).2.1
theorem ziG(neg:Bool)(v s:Nat):Digs (canon neg v s).2.1:=by
 unfold canon;split
 ·decide
 ·exact Xp _
theorem zyW(neg:Bool)(v s:Nat):(canon neg v s).2.1≠[]:=by
 unfold canon;split
 ·simp
 ·rename_i h;rw[Ne,zis];exact znY h
theorem ziE(neg:Bool)(v s:Nat):val (canon neg v s).2.1=0↔v=0:=by
 have h:=XB neg v s;have j:=pow_pos s;have B:=pow_pos (canon neg v s).2.2;constructor
 ·intro e;rw[e,Nat.zero_mul]at h;rcases Nat.mul_eq_zero.1 h.symm with h|h
  ·exact h
  ·omega
 ·intro e;subst e;rw[qE];rfl
theorem ziF(neg:Bool)(v s:Nat):(canon neg v s).1=(neg&&decide (v≠0)):=by
 unfold canon
 grind
theorem zuw{s v:Nat}(h:s=0\/v%10≠0):zX s v=(v,s):=by
 cases s with
 |zero=>rfl
 |succ s=>rw[zX,if_neg (by rcases h with h|h;cases h;exact h)]
theorem zpN(neg:Bool)(v s:Nat):canon (canon neg v s).1 (val (canon neg v s).2.1) (canon neg v s).2.2=canon neg v s:=by
 by_cases j:v=0
 ·subst j;rw[qE];rfl
 ·have e:canon neg v s=(neg,dstr (zX s v).1,(zX s v).2):=by unfold canon;rw[if_neg j]
  obtain⟨_,_,B⟩:=qx s v;rw[e];dsimp only;rw[Yb];unfold canon;rw[if_neg (znY j),zuw B]
end Go.Dg
namespace Go.Proofs.C06
open Go Go.RowKit Go.Vc Go.Am Go.Dg
theorem zN{a b:uAU}(h:a.length+b.length<=1000000):zY a b=true:=by rw[XA];omega
theorem VW{p:UInt8->Bool}:∀{l:uAU}{c:UInt8}{r:uAU},l.dropWhile p=c::r->p c=false
 |[],_,_,h=>by cases h
 |x::l,c,r,h=>by
  rw[List.dropWhile_cons]at h;split at h
  ·exact VW h
  grind
theorem QB{p:UInt8->Bool}:∀{l:uAU},l.dropWhile p=[]↔∀c∈l,p c=true
 |[]=>sI
 |x::l=>by
  rw[List.dropWhile_cons];split
  ·rename_i h;rw[QB];simp[h]
  grind
theorem zds(s cs:uAU):Lib.trimS s cs=[]↔∀c∈s,cs.contains c=true:=by
 unfold Lib.trimS Lib.trimLeftS Lib.trimRightS;rw[QB];constructor
 ·intro h;have j:s.reverse.dropWhile (cs.contains ·)=[]:=by
   rcases hr:s.reverse.dropWhile (cs.contains ·)with _|⟨c,r⟩
   ·rfl
   ·have B:=VW hr
    grind
  rw[QB]at j
  grind
 ·intro h c hc;have hc:c∈s.reverse.dropWhile (cs.contains ·):=by simpa using hc
  have:=(List.dropWhile_sublist _).subset hc
  grind
theorem zag(c:UInt8):([48,49,50,51,52,53,54,55,56,57]:uAU).contains c=true↔48<=c.toNat/\c.toNat<=57:=by
 constructor
 ·intro h;simp only[List.contains_cons,List.contains_nil,Bool.or_false,nO,beq_iff_eq]at h;rcases h with rfl|rfl|rfl|rfl|rfl|rfl|rfl|rfl|rfl|rfl<;>decide
 ·rintro⟨j,B⟩;have:∀m:Fin 256,48<=m.val->m.val<=57->([48,49,50,51,52,53,54,55,56,57]:uAU).contains (UInt8.ofNat m.val)=true:=dE
  have h:=this ⟨c.toNat,UInt8.toNat_lt c⟩ j B;simpa using h
theorem zhV{s cs:uAU}(j:s.length<=1000000)(hc:cs.length<=1000)(ha:Wg cs=true):JE s cs=some (Lib.trimS s cs):=by unfold JE;rw[decide_eq_true (show s.length<=9223372036854775807 by omega),decide_eq_true (show cs.length<4294967281 by omega),ha];rfl
theorem zix{N:Nat}{s:uAU}(j:s.length<=1000000):zcZ N s=some (decide (s≠[]/\Digs s)):=by
 unfold zcZ;rw[zj];by_cases h:s=[]
 ·grind
 ·rw[if_neg h,zhV j dE dE,zc];congr 1;rw[Bool.eq_iff_iff];simp only[decide_eq_true_eq];rw[zds];constructor
  ·intro k;exact⟨h,fun c hc=>(zag c).1 (k c hc)⟩
  ·rintro⟨_,k⟩ c hc;exact (zag c).2 (k c hc)
theorem zrs{s:uAU}:J0 s [48]=some (tz s):=by unfold J0;rw[zzj];rfl
theorem zsP{s:uAU}(j:s.length<=1000000)(B:Digs s):∃t,JE s [48]=some t/\(t=[]↔val s=0):=by
 refine⟨_,zhV j dE dE,?_⟩;rw[zds];constructor
 ·intro h;exact zwa fun c hc=>by simpa using h c hc
 ·intro h c hc;rw[znG B h c hc];decide
theorem Yz{m:Nat}(B:m<=100000):j9 [48] (m:Int)=some (List.replicate m 48):=by
 have e:Lib.repeatL [48] m=List.replicate m 48:=by
  induction m with
  |zero=>rfl
  |succ m j=>rw[Lib.repeatL,j oM,List.replicate_succ];rfl
 unfold j9;simp only[mV,mM,uAO];rw[decide_eq_true (show(0:Int)<=(m:Int)by omega),decide_eq_true (show(m:Int)<=9223372036854775807 by omega),decide_eq_true oM,e];rfl
theorem zoQ(l:uAU)(c:UInt8)(j:l.length<=1000000):X7 (l++[c]) [48]=some (decide (c=48)):=by
 unfold X7;rw[decide_eq_true (by simp;omega),za];congr 1;unfold Lib.hasSuffix;rw[Bool.eq_iff_iff,decide_eq_true_eq,List.isSuffixOf_iff_suffix];constructor
 ·simp_all
 grind
def jS(c:Bool×uAU×Nat):Decimal:=Decimal.mk c.1 c.2.1 (c.2.2:Int)
def zgS:Decimal:=Decimal.mk false [] 0
def nrm(neg:Bool)(l:uAU)(sc:Int):Decimal×Int:=if 62<(canon neg (val l*10^(-sc).toNat) sc.toNat).2.1.length\/62<(canon neg (val l*10^(-sc).toNat) sc.toNat).2.2 then(zgS,14)else(jS (canon neg (val l*10^(-sc).toNat) sc.toNat),0)
theorem zaS(N:Nat)(neg:Bool)(l:uAU)(s:Nat)(b:Decimal):YQ N neg l (s:Int) b=some (if 62<l.length\/62<s then(zgS,14)else(Decimal.mk neg l (s:Int),0)):=by
 unfold YQ jF;rw[zb];by_cases h:62<l.length\/62<s
 ·rw[if_pos h,if_pos (by split<;>omega)];rfl
 grind
theorem zr2{v:Nat}(h:v≠0)(k:Nat):dstr v++List.replicate k 48=dstr (v*10^k):=by
 have e:val (dstr v++List.replicate k 48)=v*10^k:=by rw[jM,Yb]
 rw[<-e,zm3 (Digs.append.2 ⟨Xp v,Digs.zeros k⟩)];intro c r hc;rcases hd:dstr v with _|⟨x,t⟩
 ·exact absurd (zis.1 hd) h
 ·rw[hd]at hc;cases hc;exact zfy (l:=dstr v) (by rw[zlb,hd])
theorem zaT(N:Nat)(neg:Bool){l:uAU}{s:Int}(b:Decimal)(H: -2000<=s)(J:l.length<=2000):
  ZS N neg l s b=some (if 62<l.length+(-s).toNat\/62<s.toNat then(zgS,14)else(Decimal.mk neg (l++List.replicate (-s).toNat 48) (s.toNat:Int),0)):=by
 unfold ZS;rw[zb];by_cases h:s<0
 ·obtain⟨m,j⟩:∃m:Nat,-s=m:=⟨(-s).toNat,oM⟩
  have I:s.toNat=0:=oM
  rw[if_pos h,j,zh oM oM,za,Yz oM,zc,zN (by simp;omega),za];have:=zaS N neg (l++List.replicate m 48) 0 b
  grind
 ·obtain⟨m,j⟩:∃m:Nat,s=m:=⟨s.toNat,oM⟩
  rw[if_neg h];have B:(-s).toNat=0:=oM
  rw[B,List.replicate_zero,nM,uAa,j,zaS,mV]
theorem zc0(N:Nat)(neg:Bool)(b:Decimal):∀(m n:Nat)(l:uAU)(s:Int),s.toNat=m->m<n->Digs l->(∃c r,l=c::r/\c≠48)->l.length<=2000->s<=2000->
  YP N n neg l s b=ZS N neg (dstr (zX s.toNat (val l)).1) (if s<0 then s else((zX s.toNat (val l)).2:Int)) b
 |m,0,l,s,hm,hn,_,_,_,_=>oM
 |m,n+1,l,s,hm,hn,hd,⟨c,r,hcr,hc⟩,hl,hs=>by
  have B:dstr (val l)=l:=zm3 hd fun S U h=>by rw[hcr]at h;cases h;exact hc
  show Ku N (YP N n) neg l s b=_;unfold Ku;rw[zb];by_cases h:0<s
  ·obtain⟨q,rfl⟩:∃q:Nat,s=(q+1:Nat):=⟨(s-1).toNat,oM⟩
   rcases List.eq_nil_or_concat l with J|⟨t,x,J⟩
   ·grind
   ·rw[List.concat_eq_append]at J;subst J;rw[mO]at hl;simp only[mM,uAO]at hl;rw[Digs.append,Digs.cons]at hd;have hv:=Ya t x;have hx:=hd.2.1;rw[if_pos h,zoQ t x oM,zc,zb,mV];by_cases j:x=48
    ·have ht:∃c r,t=c::r/\c≠48:=by
      cases t with
      |nil=>cases hcr;exact absurd j hc
      |cons S U=>cases hcr;exact⟨_,_,rfl,hc⟩
     have I:(((t++[x]).length:Int)-1)=(t.length:Int):=sI
     have Y:(((q+1:Nat):Int)-1)=(q:Int):=oM
     have H:zk 0 (t.length:Int) (t++[x]).length=true:=by unfold zk;simp;omega
     have Z:jy (t++[x]) (t.length:Int)=t:=by unfold jy;simp
     have O:zX (q+1) (val (t++[x]))=zX q (val t):=by subst j;rw[hv,zX,if_pos sI];congr 1;simp
     rw[if_pos j,I,Y,zh oM oM,za,H,za,zh oM oM,za,Z,
      zc0 N neg b q n t (q:Int) sI (by simp at hm;omega) hd.1 ht oM oM,O,mV,if_neg oM,if_neg oM]
    ·have hx1:x.toNat≠48:=fun e=>j (UInt8.toNat_inj.1 e)
     have O:zX (q+1) (val (t++[x]))=(val (t++[x]),q+1):=by rw[zX,if_neg (by rw[hv];omega)]
     grind
  ·rw[if_neg h];have I:s.toNat=0:=oM
   rw[I];simp only[zX,B]
   grind
theorem ZT{N:Nat}(hN:3000<N)(neg:Bool){l:uAU}(I:Digs l)(hl:l.length<=2000){s:Int}(Z: -2000<=s)(h2:s<=2000):Zs N neg l s=some (nrm neg l s):=by
 unfold Zs;rw[zrs,zc,zb];by_cases j:val l=0
 ·rw[if_pos ((za1 I).2 j)];unfold nrm;rw[j,Nat.zero_mul,qE];rfl
 ·have O:tz l≠[]:=fun e=>j ((za1 I).1 e)
  rw[if_neg O];obtain⟨c,r,B⟩:∃c r,tz l=c::r:=by
   rcases htz:tz l with _|⟨c,r⟩
   ·grind
   grind
  have Y:=zC2 l;rw[zc0 N neg _ s.toNat N (tz l) s rfl oM I.tz ⟨c,r,B,zfy B⟩ oM h2,K4];have H:(dstr (zX s.toNat (val l)).1).length<=2000:=by
   have hlt:=jv I;have hle:(zX s.toNat (val l)).1<=val l:=by have:=(qx s.toNat (val l)).1;have hp:=pow_pos (s.toNat-(zX s.toNat (val l)).2);rw[this];exact nD (Nat.le_of_eq (mX _).symm) (by rw[<-this];exact nD (Nat.mul_le_mul_left _ hp) (Nat.le_of_eq this.symm))
   have:=zps (v:=(zX s.toNat (val l)).1) (n:=l.length) oM;omega
  by_cases U:s<0
  ·rw[if_pos U,zaT N neg _ Z H];have J:s.toNat=0:=oM
   unfold nrm;rw[J];have e2:zX 0 (val l)=(val l,0):=rfl;have hv:val l*10^(-s).toNat≠0:=fun e=>by
    rcases Nat.mul_eq_zero.1 e with e|e
    ·exact j e
    grind
   have S:canon neg (val l*10^(-s).toNat) 0=(neg,dstr (val l)++List.replicate (-s).toNat 48,0):=by unfold canon;rw[if_neg hv,zr2 j];rfl
   rw[e2,S];dsimp only;rw[mO,mK];rfl
  ·rw[if_neg U,zaT N neg _ oM H];unfold nrm;have J:(-s).toNat=0:=oM
   have S:canon neg (val l*10^(-s).toNat) s.toNat=(neg,dstr (zX s.toNat (val l)).1,(zX s.toNat (val l)).2):=by rw[J,Nat.pow_zero,mX];unfold canon;rw[if_neg j]
   have e4:(-(((zX s.toNat (val l)).2:Nat):Int)).toNat=0:=oM
   rw[S,e4,mV,uAa,List.replicate_zero,nM];rfl
def VD(d:Decimal):Prop:=d.uA≠[]/\Digs d.uA/\d.uA.length<=62/\0<=d.uB/\d.uB<=62/\nrm d.uI d.uA d.uB=(d,0)
instance(d:Decimal):Decidable (VD d):=by unfold VD;infer_instance
theorem zgL{N:Nat}(H:3000<N)(neg:Bool){l:uAU}(j:Digs l)(B:l≠[])(O:l.length<=1000){s:Int}(I: -1000<=s)(J:s<=1000):zr6 N neg l s=some (nrm neg l s):=by unfold zr6;rw[zix oM,zc,zj,if_pos ⟨B,j⟩,zb,if_neg oM,zb,if_neg oM,zb,if_neg oM,ZT H neg j oM oM oM,zc]
theorem ZU{N:Nat}(S:3000<N){d:Decimal}(U:d.uA.length<=1000):QC N d=some (if VD d then 0 else 1):=by
 unfold QC;rw[zix oM,zc,zj];by_cases j:d.uA≠[]/\Digs d.uA
 ·rw[if_pos j,zb];by_cases J:62<(d.uA.length:Int)
  ·rw[if_pos J,if_neg (fun h=>by have:=h.2.2.1;omega)]
  ·rw[if_neg J,zb];by_cases I:d.uB<0
   ·rw[if_pos I,if_neg (fun h=>by have:=h.2.2.2.1;omega)]
   ·rw[if_neg I,zb];by_cases O:62<d.uB
    ·rw[if_pos O,if_neg (fun h=>by have:=h.2.2.2.2.1;omega)]
    ·rw[if_neg O,ZT S _ j.2 oM oM oM,zc,zj];by_cases H:(nrm d.uI d.uA d.uB).2=0
     ·rw[if_pos H];have e:(decide ((nrm d.uI d.uA d.uB).1.uI=d.uI)&&(decide ((nrm d.uI d.uA d.uB).1.uA=d.uA)&&(decide ((nrm d.uI d.uA d.uB).1.uB=d.uB)&&true)))=decide ((nrm d.uI d.uA d.uB).1=d):=by rw[Bool.eq_iff_iff];obtain⟨a,b,c⟩:=d;generalize (nrm a b c).1=y;obtain⟨p,q,r⟩:=y;simp
      rw[e,zj];by_cases B:(nrm d.uI d.uA d.uB).1=d
      ·rw[if_pos B,if_pos ⟨j.1,j.2,oM,oM,oM,Prod.ext B H⟩]
      ·rw[if_neg B,if_neg (fun h=>B (by rw[h.2.2.2.2.2]))]
     ·rw[if_neg H,if_neg (fun h=>H (by rw[h.2.2.2.2.2]))]
 ·rw[if_neg j,if_neg (fun h=>j ⟨h.1,h.2.1⟩)]
theorem VD.form{d:Decimal}(h:VD d):jS (canon d.uI (val d.uA) d.uB.toNat)=d:=by
 obtain⟨_,_,_,B,_,j⟩:=h;unfold nrm at j
 grind
theorem VD.of{neg:Bool}{v s:Nat}(j:(canon neg v s).2.1.length<=62)(H:(canon neg v s).2.2<=62):VD (jS (canon neg v s)):=by
 refine⟨zyW _ _ _,ziG _ _ _,j,?_,?_,?_⟩
 ·show(0:Int)<=((canon neg v s).2.2:Int);omega
 ·show((canon neg v s).2.2:Int)<=62;omega
 ·unfold nrm;have B:(-(jS (canon neg v s)).uB).toNat=0:=by show(-((canon neg v s).2.2:Int)).toNat=0;omega
  have I:(jS (canon neg v s)).uB.toNat=(canon neg v s).2.2:=by show(((canon neg v s).2.2:Nat):Int).toNat=_;omega
  have J:canon (jS (canon neg v s)).uI (val (jS (canon neg v s)).uA) (canon neg v s).2.2=canon neg v s:=zpN neg v s
  grind
theorem zdN{neg:Bool}{l:uAU}{s:Int}(j:(canon neg (val l*10^(-s).toNat) s.toNat).2.1.length<=62)(B:(canon neg (val l*10^(-s).toNat) s.toNat).2.2<=62):
  nrm neg l s=(jS (canon neg (val l*10^(-s).toNat) s.toNat),0):=by
 unfold nrm;rw[if_neg oM]
theorem qh{neg:Bool}{v s n:Nat}(B:1<=n)(h:v<10^n):(canon neg v s).2.1.length<=n:=by
 unfold canon;split
 ·simpa using B
 ·dsimp only;refine zps ?_;have:=(qx s v).1;have hp:=pow_pos (s-(zX s v).2);have j:(zX s v).1<=v:=by rw[this];exact nD (Nat.le_of_eq (mX _).symm) (by rw[<-this];exact nD (Nat.mul_le_mul_left _ hp) (Nat.le_of_eq this.symm))
  omega
theorem zBD{v len k:Nat}(h:v<10^len):v%10^(min len k)=v%10^k:=by
 rcases Nat.le_total k len with hk|hk
 ·grind
 ·rw[uAF hk,nV h,nV (Nat.lt_of_lt_of_le h (Nat.pow_le_pow_right dE hk))]
theorem zjP(l:uAU){m:Nat}(h:m<=l.length):jy l ((l.length:Int)-(m:Int))=l.take (l.length-m):=by unfold jy;congr 1;omega
theorem Xt(l:uAU){m:Nat}(h:m<=l.length):zO l ((l.length:Int)-(m:Int))=l.drop (l.length-m):=by unfold zO;congr 1;omega
theorem zsa{N:Nat}(Y:3000<N){d b:Decimal}(U:VD d){m:Nat}(H:m<=d.uA.length):
  zc1 N (m:Int) d b=some ((nrm d.uI (d.uA.take (d.uA.length-m)++List.replicate m 48) d.uB).1,decide (val d.uA%10^m=0),(nrm d.uI (d.uA.take (d.uA.length-m)++List.replicate m 48) d.uB).2):=by
 obtain⟨Z,I,h3,h4,h5,_⟩:=U;unfold zc1;have B:zk ((d.uA.length:Int)-(m:Int)) (d.uA.length:Int) d.uA.length=true:=by unfold zk;simp<;>omega
 have j:zk 0 ((d.uA.length:Int)-(m:Int)) d.uA.length=true:=by unfold zk;simp<;>omega
 obtain⟨t,J,O⟩:=zsP (s:=d.uA.drop (d.uA.length-m)) (by rw[mP];omega) (I.drop _);rw[zh oM oM,za,B,za,za,j,za,Yz oM,zc,zjP _ H,Xt _ H,
  zN (by rw[mI,mK];omega),za,
  ZT Y _ (Digs.append.2 ⟨I.take _,Digs.zeros _⟩) (by rw[mO,mI,mK];omega) oM oM,zc,J,zc]
 have S:(t=[])↔val d.uA%10^m=0:=by rw[O,(ju I H).2]
 rw[decide_eq_decide.2 S]
theorem zgM{N:Nat}(H:3000<N){d:Decimal}(j:VD d){s:Int}(Z: -1000<=s)(O:s<=1000):
  ∃x e,zjw N d s=some (x,decide (val d.uA%10^(d.uB-s).toNat=0),e)/\
   (d.uB<=s->x=d/\e=0)/\(s<d.uB->∃m,m=min d.uA.length (d.uB-s).toNat/\(x,e)=nrm d.uI (d.uA.take (d.uA.length-m)++List.replicate m 48) d.uB):=by
 have B:=j;obtain⟨S,I,U,h4,Y,_⟩:=B;unfold zjw;rw[ZU H oM,if_pos j,zc,zj,if_pos rfl,zb];by_cases h:d.uB<=s
 ·rw[if_pos h];refine⟨d,0,?_,fun _=>⟨rfl,rfl⟩,fun h'=>oM⟩;have e:(d.uB-s).toNat=0:=oM
  rw[e,Nat.pow_zero,Nat.mod_one,decide_eq_true rfl]
 ·rw[if_neg h,zb,if_pos oM,zh oM oM,za];have J:zao (d.uA.length:Int) (d.uB-s)=((min d.uA.length (d.uB-s).toNat:Nat):Int):=by unfold zao;split<;>omega
  rw[J,zsa H j oM,zBD (jv I)]
  grind
def quo(v S:Nat)(s:Int):Nat:=v*10^(s-(S:Int)).toNat/10^((S:Int)-s).toNat
def exact(v S:Nat)(s:Int):Prop:=v%10^((S:Int)-s).toNat=0
instance(v S:Nat)(s:Int):Decidable (exact v S s):=by unfold exact;infer_instance
theorem zcj{N:Nat}{n:Nat}{s:uAU}(B:n<=1000)(j:s.length<=1000):QR N (n:Int) s=some (List.replicate (n-s.length) 48++s,true):=by
 unfold QR;have e:jF ((n:Int)-(s.length:Int)) 0=((n-s.length:Nat):Int):=by unfold jF;split<;>omega
 rw[zh oM oM,za,e,Yz oM,zc,zN (by rw[mK];omega),za]
theorem WM{N:Nat}(hN:3000<N){d:Decimal}(J:VD d){n:Nat}{s:Int}(S:n<=1000)(hs: -62<=s)(hs2:s<=62):
  (exact (val d.uA) d.uB.toNat s->∃t,places N d (n:Int) s=some (t,true)/\Digs t/\val t=quo (val d.uA) d.uB.toNat s/\n<=t.length/\t.length<=2000)/\
  (¬exact (val d.uA) d.uB.toNat s->places N d (n:Int) s=some ([],false)):=by
 obtain⟨x,e,hc,_⟩:=zgM hN J (s:=s) oM oM;obtain⟨h1,B,h3,h4,h5,_⟩:=J;have U:((d.uB.toNat:Nat):Int)=d.uB:=oM
 have I:(val d.uA%10^(d.uB-s).toNat=0)↔exact (val d.uA) d.uB.toNat s:=by unfold exact;rw[U]
 unfold places;rw[hc,zc,zj];constructor
 ·intro Y;rw[if_pos (I.2 Y),zh oM oM,za,zb];by_cases h:0<=s-d.uB
  ·obtain⟨k,hk⟩:∃k:Nat,s-d.uB=k:=⟨(s-d.uB).toNat,oM⟩
   have O:(d.uB-s).toNat=0:=oM
   refine⟨List.replicate (n-(d.uA++List.replicate k 48).length) 48++(d.uA++List.replicate k 48),?_,?_,?_,?_,?_⟩
   ·rw[if_pos h,hk,Yz oM,zc,zN (by rw[mK];omega),za,zcj S (by rw[mO,mK];omega)]
   ·exact Digs.append.2 ⟨Digs.zeros _,Digs.append.2 ⟨B,Digs.zeros _⟩⟩
   ·rw[yW,jM];unfold quo
    grind
   ·grind
   grind
  ·obtain⟨k,hk⟩:∃k:Nat,d.uB-s=k:=⟨(d.uB-s).toNat,oM⟩
   have em:jF ((d.uA.length:Int)+(s-d.uB)) 0=((d.uA.length-k:Nat):Int):=by unfold jF;split<;>omega
   have Z:jy d.uA ((d.uA.length-k:Nat):Int)=d.uA.take (d.uA.length-k):=rfl;have H:zk 0 ((d.uA.length-k:Nat):Int) d.uA.length=true:=by unfold zk;simp<;>omega
   have O:(s-d.uB).toNat=0:=oM
   refine⟨List.replicate (n-(d.uA.take (d.uA.length-k)).length) 48++d.uA.take (d.uA.length-k),?_,?_,?_,?_,?_⟩
   ·rw[if_neg h,zh oM oM,za,em,H,za,Z,zcj S (by rw[mI];omega)]
   ·exact Digs.append.2 ⟨Digs.zeros _,B.take _⟩
   ·rw[yW];unfold quo;rw[U,O,hk,mV,Nat.pow_zero,mX];rcases Nat.le_total k d.uA.length with j|j
    ·exact (ju B j).1
    ·have:d.uA.length-k=0:=oM
     rw[this,List.take_zero,zb0,Nat.div_eq_of_lt (Nat.lt_of_lt_of_le (jv B) (Nat.pow_le_pow_right dE j))]
   ·grind
   grind
 ·grind
theorem WH{N:Nat}(I:3000<N){d:Decimal}(H:d.uA.length<=1000){n:Nat}{s:Int}(j:1<=n)(J:n<=62)(O: -62<=s)(B:s<=62):zbb N d (n:Int) s=some (if VD d then 0 else 1):=by
 unfold zbb;rw[ZU I H,zc,zj]
 grind
def Jl(d:Decimal)(n:Nat)(s:Int):Prop:=exact (val d.uA) d.uB.toNat s/\quo (val d.uA) d.uB.toNat s<10^n
instance(d:Decimal)(n:Nat)(s:Int):Decidable (Jl d n s):=by unfold Jl;infer_instance
theorem zhn{N:Nat}(Z:3000<N){d:Decimal}(H:VD d){n:Nat}{s:Int}(O:1<=n)(hn:n<=62)(U: -62<=s)(B:s<=62):zho N d (n:Int) s=some (decide (Jl d n s),0):=by
 have j:d.uA.length<=1000:=by have:=H.2.2.1;omega
 obtain⟨p1,p2⟩:=WM Z H (n:=n) (s:=s) oM U B;unfold zho;rw[WH Z j O hn U B,if_pos H,zc,zj,if_pos rfl];by_cases J:exact (val d.uA) d.uB.toNat s
 ·obtain⟨t,e1,S,e3,Y,e5⟩:=p1 J;have I:zk 0 ((t.length:Int)-(n:Int)) t.length=true:=by unfold zk;simp<;>omega
  obtain⟨q,g1,g2⟩:=zsP (s:=t.take (t.length-n)) (by rw[mI];omega) (S.take _);rw[e1,zc];dsimp only;rw[cond_true,zh oM oM,za,I,za,zjP _ Y,g1,zc];congr 2;rw[decide_eq_decide,g2,(ju S Y).1,e3];unfold Jl;simp_all
 ·rw[p2 J,zc];dsimp only;rw[cond_false,decide_eq_false (fun h=>J h.1)]
theorem zhp{N:Nat}(U:3000<N){d:Decimal}(S:VD d){n:Nat}{s:Int}(H:1<=n)(hn:n<=62)(J: -62<=s)(j:s<=62):
  WG N d (n:Int) s=some (if Jl d n s then(fmt n (quo (val d.uA) d.uB.toNat s),0)else([],14)):=by
 obtain⟨Y,_⟩:=WM U S (n:=n) (s:=s) oM J j;unfold WG;rw[zhn U S H hn J j,zc,zj,if_pos rfl,zj];by_cases h:Jl d n s
 ·obtain⟨t,Z,I,e3,O,e5⟩:=Y h.1;have B:zk ((t.length:Int)-(n:Int)) (t.length:Int) t.length=true:=by unfold zk;simp<;>omega
  rw[if_pos h,if_pos h,Z,zc];dsimp only;rw[zh oM oM,za,B,za,Xt _ O];congr 2;refine zrF (I.drop _) (by rw[mP];omega) ?_;rw[(ju I O).2,e3,nV h.2]
 ·grind
theorem Jk{v S n:Nat}{s:Int}(U:S<=62)(Y: -62<=s)(O:s<=62):(exact v S s/\quo v S s<10^n)↔∃q,q<10^n/\v*10^(62+s).toNat=q*10^(62+S):=by
 unfold exact quo;have hp:0<10^((S:Int)-s).toNat:=pow_pos _;have key:∀q,(v*10^(s-(S:Int)).toNat=q*10^((S:Int)-s).toNat)↔v*10^(62+s).toNat=q*10^(62+S):=by
  intro q;rcases Int.le_total s S with h|h
  ·have j:(s-(S:Int)).toNat=0:=oM
   have H:62+S=((S:Int)-s).toNat+(62+s).toNat:=oM
   rw[j,H,Nat.pow_zero,mX,Nat.pow_add,<-Nat.mul_assoc];constructor
   ·intro h;rw[h]
   ·intro h;exact Nat.eq_of_mul_eq_mul_right (pow_pos _) h
  ·have j:((S:Int)-s).toNat=0:=oM
   have H:(62+s).toNat=(s-(S:Int)).toNat+(62+S):=oM
   rw[j,H,Nat.pow_zero,mX,Nat.pow_add,<-Nat.mul_assoc];constructor
   ·intro h;rw[h]
   ·intro h;exact Nat.eq_of_mul_eq_mul_right (pow_pos _) h
 constructor
 ·rintro⟨B,I⟩;refine⟨_,I,(key _).1 ?_⟩;rw[Nat.div_mul_cancel];exact Nat.dvd_trans (Nat.dvd_of_mod_eq_zero B) (Nat.dvd_mul_right _ _)
 ·rintro⟨q,B,I⟩;have J:=(key q).2 I;refine⟨?_,by rw[J,Nat.mul_div_cancel _ hp];exact B⟩;rcases Int.le_total s S with h|h
  ·have j:(s-(S:Int)).toNat=0:=oM
   rw[j,Nat.pow_zero,mX]at J;simp_all
  grind
theorem zlx{v S q:Nat}{s:Int}(I:S<=62)(J: -62<=s)(j:s<=62)(h:v*10^(62+s).toNat=q*10^(62+S)):quo v S s=q:=by
 obtain⟨O,U⟩:=(Jk (v:=v) (n:=q+1) I J j).2 ⟨q,Nat.lt_of_lt_of_le (Yw q) (Nat.pow_le_pow_right dE oM),h⟩;obtain⟨Y,h3,Z⟩:=(Jk (v:=v) (n:=q+1) I J j).1 ⟨O,U⟩;have hq:Y=q:=Nat.eq_of_mul_eq_mul_right (pow_pos _) (Z.symm.trans h);unfold quo;rcases Int.le_total s S with h'|h'
 ·have H:(s-(S:Int)).toNat=0:=oM
  have B:62+S=((S:Int)-s).toNat+(62+s).toNat:=oM
  rw[B,Nat.pow_add,<-Nat.mul_assoc]at h;have:=Nat.eq_of_mul_eq_mul_right (pow_pos _) h;rw[H,Nat.pow_zero,mX,this,Nat.mul_div_cancel _ (pow_pos _)]
 ·have H:((S:Int)-s).toNat=0:=oM
  have B:(62+s).toNat=(s-(S:Int)).toNat+(62+S):=oM
  rw[B,Nat.pow_add,<-Nat.mul_assoc]at h;have:=Nat.eq_of_mul_eq_mul_right (pow_pos _) h
  grind
end Go.Proofs.C06
namespace Go.Dg
open Go
theorem znt(k:IntKind)(n:Int):k.wrap n=k.wrap (n% (2^k.bits:Int)):=by unfold IntKind.wrap;simp only[Int.emod_emod_of_dvd _ (Int.dvd_refl _)]
theorem zqc{k:IntKind}{m n:Int}(h:m% (2^k.bits:Int)=n% (2^k.bits:Int)):k.wrap m=k.wrap n:=by rw[znt,h,<-znt]
theorem zsE{n:Int}(B:0<=n)(j:n<256):IntKind.wrap .u8 n=n:=by have e:(2^IntKind.bits .u8:Int)=256:=rfl;unfold IntKind.wrap;rw[e];simp only[show IntKind.signed .u8=false from rfl,Bool.false_and,nA,if_false];omega
theorem wrap_u64(n:Int):IntKind.wrap .u64 n=n%18446744073709551616:=by have e:(2^IntKind.bits .u64:Int)=18446744073709551616:=rfl;unfold IntKind.wrap;rw[e];simp only[show IntKind.signed .u64=false from rfl,Bool.false_and,nA,if_false]
theorem zbS(n:Int):IntKind.wrap .u8 n=n%256:=by have e:(2^IntKind.bits .u8:Int)=256:=rfl;unfold IntKind.wrap;rw[e];simp only[show IntKind.signed .u8=false from rfl,Bool.false_and,nA,if_false]
theorem wrap_i64(n:Int):IntKind.wrap .i64 n=if 9223372036854775808<=n%18446744073709551616 then n%18446744073709551616-18446744073709551616 else n%18446744073709551616:=by have e:(2^IntKind.bits .i64:Int)=18446744073709551616:=rfl;have j:(2^(IntKind.bits .i64-1):Int)=9223372036854775808:=rfl;unfold IntKind.wrap;rw[e,j];simp only[show IntKind.signed .i64=true from rfl,uAi,decide_eq_true_eq,ge_iff_le]
theorem znu{n:Int}(B: -9223372036854775808<=n)(j:n<9223372036854775808):IntKind.wrap .i64 n=n:=by rw[wrap_i64];split<;>omega
theorem Jb(w:Nat)(x:Int):((BitVec.ofInt w x).toNat:Int)=x% (2^w:Int):=by
 rw[BitVec.toNat_ofInt,Int.toNat_of_nonneg]
 ·norm_cast
 ·exact Int.emod_nonneg _ (by have:=Nat.two_pow_pos w;omega)
theorem JQ{k:IntKind}{x:Int}{m:Nat}(j:m<=k.bits):bits .and k x ((2^m-1:Nat):Int)=k.wrap (x% ((2^m:Nat):Int)):=by
 have B:(BitVec.ofInt k.bits ((2^m-1:Nat):Int)).toNat=2^m-1:=by
  have h:=Jb k.bits ((2^m-1:Nat):Int);have H:(2:Nat)^m<=2^k.bits:=Nat.pow_le_pow_right dE j;have hp:=Nat.two_pow_pos m;have hc:(2^k.bits:Int)=((2^k.bits:Nat):Int):=by norm_cast
  rw[hc,Int.emod_eq_of_lt oM oM]at h;omega
 unfold bits;simp only[BitVec.toNat_and,B,Nat.and_two_pow_sub_one_eq_mod];congr 1;rw[Int.natCast_emod,Jb];refine Int.emod_emod_of_dvd _ ?_;have:=Nat.pow_dvd_pow 2 j;have hc:(2^k.bits:Int)=((2^k.bits:Nat):Int):=by norm_cast
 rw[hc];exact Int.natCast_dvd_natCast.2 this
theorem ze1{k:IntKind}{a x:Int}{m:Nat}(B:m<=k.bits)(ha:a% ((2^m:Nat):Int)=0)(Y:0<=x)(Z:x<((2^m:Nat):Int)):bits .or k a x=k.wrap (a+x):=by
 have hc:(2^k.bits:Int)=((2^k.bits:Nat):Int):=by norm_cast
 have I:(2:Nat)^m<=2^k.bits:=Nat.pow_le_pow_right dE B;obtain⟨A,S⟩:∃A:Nat,(BitVec.ofInt k.bits a).toNat=A*2^m:=by
  have h:=Jb k.bits a;have U:((2^m:Nat):Int)∣((BitVec.ofInt k.bits a).toNat:Int):=by apply Int.dvd_of_emod_eq_zero;rw[h,hc,Int.emod_emod_of_dvd _ (Int.natCast_dvd_natCast.2 (Nat.pow_dvd_pow 2 B))];exact ha
  obtain⟨q,J⟩:=Int.natCast_dvd_natCast.1 U;exact⟨q,by rw[J,Nat.mul_comm]⟩
 obtain⟨y,rfl⟩:∃y:Nat,x=y:=⟨x.toNat,oM⟩
 have O:y<2^m:=oM
 have H:(BitVec.ofInt k.bits (y:Int)).toNat=y:=by have h:=Jb k.bits (y:Int);rw[hc,Int.emod_eq_of_lt oM oM]at h;omega
 unfold bits;simp only[BitVec.toNat_or,H];have j:(BitVec.ofInt k.bits a).toNat|||y=(BitVec.ofInt k.bits a).toNat+y:=by rw[S,<-Nat.shiftLeft_eq,Nat.shiftLeft_add_eq_or_of_lt O]
 rw[j];apply zqc;rw[Int.natCast_add,Jb,Int.emod_add_emod]
theorem zCL{x:Int}:bits .and .u8 x 15=x%16:=by have:=JQ (k:=.u8) (x:=x) (m:=4) dE;rw[show((2^4-1:Nat):Int)=15 from rfl,show((2^4:Nat):Int)=16 from rfl,zsE oM oM]at this;exact this
theorem zEb{x:Int}:bits .and .i64 x 255=x%256:=by have:=JQ (k:=.i64) (x:=x) (m:=8) dE;rw[show((2^8-1:Nat):Int)=255 from rfl,show((2^8:Nat):Int)=256 from rfl,znu oM oM]at this;exact this
theorem zEE{a x:Int}(ha:a%16=0)(B:0<=x)(j:x<16):bits .or .u8 a x=(a+x)%256:=by have:=ze1 (k:=.u8) (a:=a) (x:=x) (m:=4) dE (by simpa using ha) B (by simpa using j);rw[this,zbS]
theorem zDE{a x:Int}(ha:a%256=0)(B:0<=x)(j:x<256):bits .or .u64 a x=(a+x)%18446744073709551616:=by have:=ze1 (k:=.u64) (a:=a) (x:=x) (m:=8) dE (by simpa using ha) B (by simpa using j);rw[this,wrap_u64]
end Go.Dg
namespace Go.Proofs.C06
open Go Go.RowKit Go.Vc Go.Am Go.Dg
theorem zH{i n:Nat}(h:i<n):inIx (i:Int) n=true:=zw.2 ⟨oM,oM⟩
theorem zC(s:uAU)(i:Nat):byteAt s (i:Int)=((s.getD i 0).toNat:Int):=rfl
theorem Zl{n:Int}(j:0<=n)(h:n<=255):inKb .u8 n=true:=yq.2 ⟨j,h⟩
theorem zb4(c:UInt8):c.toNat<256:=UInt8.toNat_lt c
theorem zwl(c:UInt8):((c.toNat:Int).toNat.toUInt8)=c:=sI
theorem ZI{c:Nat}:toByte (c:Int)=UInt8.ofNat c:=rfl
theorem zb6(c:UInt8):toByte ((c.toNat:Nat):Int)=c:=by unfold toByte;simp_all
theorem zo5{l:uAU}{i:Nat}(h:i<l.length):l.getD i 0∈l:=by
 grind
theorem jG{l:uAU}(j:Digs l){i:Nat}(h:i<l.length):48<=(l.getD i 0).toNat/\(l.getD i 0).toNat<=57:=j _ (zo5 h)
theorem zuA{l:uAU}{i:Nat}(h:i<l.length)(x:UInt8):l.take i++[x]++l.drop (i+1)=l.set i x:=by rw[List.set_eq_take_append_cons_drop,if_pos h,mR];rfl
def zeB:uAU:=[123,65,66,67,68,69,70,71,72,73]
def X4:uAU:=[125,74,75,76,77,78,79,80,81,82]
def zq4:uAU:=[48,49,50,51,52,53,54,55,56,57]
def ixC(c:UInt8):Int:=jF (Lib.indexByte zeB c) (Lib.indexByte X4 c)
def zyE(c:UInt8):Option (Bool×UInt8):=if 0<=ixC c then some (decide (0<=Lib.indexByte X4 c),zq4.getD (ixC c).toNat 0)else none
def letC(ng:Bool)(c:UInt8):UInt8:=(if ng then X4 else zeB).getD (c.toNat-48) 0
theorem zDO(c:UInt8):ixC c<10:=by
 have:∀m:Fin 256,ixC (UInt8.ofNat m.val)<10:=dE
 have h:=this ⟨c.toNat,zb4 c⟩;simpa using h
theorem zvK(ng:Bool){c:UInt8}(h:48<=c.toNat/\c.toNat<=57):zyE (letC ng c)=some (ng,c):=by
 have:∀m:Fin 256,48<=m.val->m.val<=57->zyE (letC true (UInt8.ofNat m.val))=some (true,UInt8.ofNat m.val)/\zyE (letC false (UInt8.ofNat m.val))=some (false,UInt8.ofNat m.val):=dE
 have j:=this ⟨c.toNat,zb4 c⟩ h.1 h.2;simp only[UInt8.ofNat_toNat]at j;cases ng
 ·exact j.2
 ·exact j.1
def sgnAt(ld:Bool)(n:Nat):Nat:=if ld then 0 else n-1
theorem zpb{N:Nat}{f:form}{n:Nat}(j:f.uA=(n:Int))(B:1<=n)(H:n<=100):zpc N f=some ((sgnAt f.uK n:Nat):Int):=by
 unfold zpc sgnAt;cases f.uK with
 |true=>rfl
 |false=>rw[cond_false,j,zh oM oM,za,if_neg sI];congr 1;omega
theorem zhe{ld:Bool}{n:Nat}(h:1<=n):sgnAt ld n<n:=by unfold sgnAt;split<;>omega
def rZ(sg ld:Bool)(n:Nat)(b:uAU):digits×Bool:=
 if sg then match zyE (b.getD (sgnAt ld n) 0)with
  |some (ng,x)=>(digits.mk ng (b.set (sgnAt ld n) x),decide (Digs (b.set (sgnAt ld n) x)))
  |none=>(digits.mk false b,decide (Digs b))
 else(digits.mk false b,decide (Digs b))
theorem zCs{s:uAU}(j:s.length<=1000000):∃t,JE s [48,49,50,51,52,53,54,55,56,57]=some t/\(t=[]↔Digs s):=by refine⟨_,zhV j dE dE,?_⟩;rw[zds];exact⟨fun h c hc=>(zag c).1 (h c hc),fun h c hc=>(zag c).2 (h c hc)⟩
theorem XM{N:Nat}(j b1:digits)(h:b1.s.length<=1000):JU N j b1=some (b1,decide (Digs b1.s)):=by unfold JU;obtain⟨t,B,H⟩:=zCs (s:=b1.s) oM;simp_all
theorem zun{N:Nat}{f:form}{b:uAU}{n:Nat}(Y:f.uA=(n:Int))(U:1<=n)(Z:n<=100)(hb:b.length=n):zg6 N f b=some (rZ f.uG f.uK n b):=by
 unfold zg6 rZ;rw[zpb Y U Z,zc];have O:=zhe (ld:=f.uK) U;generalize sgnAt f.uK n=i at O;cases f.uG with
 |false=>rw[cond_false,XM _ _ (by show b.length<=1000;omega),if_neg sI]
 |true=>
  rw[cond_true,if_pos rfl,zH oM,za,zC];unfold yo;rw[zwl,zc,zc];have e:jF (Lib.indexByte [123,65,66,67,68,69,70,71,72,73] (b.getD i 0)) (Lib.indexByte [125,74,75,76,77,78,79,80,81,82] (b.getD i 0))=ixC (b.getD i 0):=rfl;rw[e,zb];have hk:=zDO (b.getD i 0);unfold zyE;by_cases J:0<=ixC (b.getD i 0)
  ·obtain⟨k,S⟩:∃k:Nat,ixC (b.getD i 0)=k:=⟨(ixC (b.getD i 0)).toNat,oM⟩
   have j:Vc.sub ([48,49,50,51,52,53,54,55,56,57]:uAU) (k:Int) ((k:Int)+1)=[zq4.getD k 0]:=by
    have:∀m:Fin 10,Vc.sub ([48,49,50,51,52,53,54,55,56,57]:uAU) ((m.val:Nat):Int) (((m.val:Nat):Int)+1)=[zq4.getD m.val 0]:=dE
    exact this ⟨k,oM⟩
   have I:zk 0 (i:Int) b.length=true:=by unfold zk;simp<;>omega
   have B:zk (k:Int) ((k:Int)+1) ([48,49,50,51,52,53,54,55,56,57]:uAU).length=true:=by unfold zk;simp<;>omega
   have H:zk ((i:Int)+1) (b.length:Int) b.length=true:=by unfold zk;simp<;>omega
   have ht:jy b (i:Int)=b.take i:=rfl;have hd:zO b ((i:Int)+1)=b.drop (i+1):=by unfold zO;congr 1
   rw[if_pos J,if_pos J,S,j,I,za,zh oM oM,za,B,za,ht,zN (by simp[List.length_take];omega),za,zh oM oM,za,H,za,hd,
    zN (by simp[List.length_take];omega),za,zuA oM,XM _ _ (by show(b.set i _).length<=1000;rw[List.length_set];omega),mV]
   rfl
  ·rw[if_neg J,if_neg J,XM _ _ (by show b.length<=1000;omega)]
def wZ(sg ld ng:Bool)(n:Nat)(s:uAU):uAU:=if sg then s.set (sgnAt ld n) (letC ng (s.getD (sgnAt ld n) 0))else s
theorem zW{n:Int}(B:0<=n)(j:n<256):IntKind.wrap .u8 n=n:=zsE B j
theorem K5{N:Nat}{i:Nat}{ng:Bool}{s:uAU}(hi:i<s.length)(j:Digs s):Z7 N (i:Int) (if ng then X4 else zeB) s=some (s.set i (letC ng (s.getD i 0))):=by
 have h:=jG j hi;have B:(if ng then X4 else zeB).length=10:=by cases ng<;>rfl
 unfold Z7;have e:((s.getD i 0).toNat:Int)-48=(((s.getD i 0).toNat-48:Nat):Int):=oM
 rw[zH hi,za,za,zC,e,zW oM oM,zH oM,za,za,zC,Zl oM (by have:=zb4 ((if ng then X4 else zeB).getD ((s.getD i 0).toNat-48) 0);omega),
  zb6,mV]
 rfl
theorem znJ{N:Nat}{f:form}{d:digits}{n:Nat}(H:f.uA=(n:Int))(j:1<=n)(J:n<=100)(U:d.s.length=n)(B:Digs d.s):QH N f d=some (wZ f.uG f.uK d.neg n d.s):=by
 unfold QH wZ;rw[zpb H j J,zc];have O:=zhe (ld:=f.uK) j;cases f.uG with
 |false=>rw[cond_false,if_neg sI]
 |true=>
  rw[cond_true,if_pos rfl];have I:=K5 (N:=N) (ng:=true) (i:=sgnAt f.uK n) (s:=d.s) oM B;have S:=K5 (N:=N) (ng:=false) (i:=sgnAt f.uK n) (s:=d.s) oM B;cases d.neg with
  |true=>exact I
  |false=>exact S
theorem zCW{sg ld ng:Bool}{n:Nat}{s:uAU}:(wZ sg ld ng n s).length=s.length:=by unfold wZ;split<;>simp
theorem zEy{sg ld ng:Bool}{n:Nat}{s:uAU}(B:1<=n)(J:s.length=n)(j:Digs s):rZ sg ld n (wZ sg ld ng n s)=(digits.mk (sg&&ng) s,true):=by
 have I:=zhe (ld:=ld) B;unfold rZ wZ;cases sg with
 |false=>simp[j]
 |true=>
  simp only[if_true,uAi];have e:(s.set (sgnAt ld n) (letC ng (s.getD (sgnAt ld n) 0))).getD (sgnAt ld n) 0=letC ng (s.getD (sgnAt ld n) 0):=by
   grind
  have H:(s.set (sgnAt ld n) (letC ng (s.getD (sgnAt ld n) 0))).set (sgnAt ld n) (s.getD (sgnAt ld n) 0)=s:=by simp_all
  rw[e,zvK ng (jG j oM)];dsimp only;rw[H,decide_eq_true j]
def rS(ld:Bool)(n:Nat)(b:uAU):digits×Bool:=(digits.mk (decide (b.getD (if ld then 0 else n) 0=45)) (if ld then b.drop 1 else b.take n),decide ((b.getD (if ld then 0 else n) 0=43\/b.getD (if ld then 0 else n) 0=45)/\Digs (if ld then b.drop 1 else b.take n)))
theorem zgO{c:UInt8}{k:Nat}(hk:k<256):((c.toNat:Int)=(k:Int))↔c=UInt8.ofNat k:=by
 constructor
 ·intro h;apply UInt8.toNat_inj.1;rw[UInt8.toNat_ofNat'];omega
 ·rintro rfl;rw[UInt8.toNat_ofNat'];omega
theorem KL{N:Nat}{f:form}{b:uAU}{n at_ fr:Nat}(Y:f.uA=(n:Int))(Z:n<=100)(hb:b.length=n+1)(ha:at_<b.length)(hf:fr+n<=b.length)(d:digits):
  Ze N b (at_:Int) (fr:Int) f d=some (digits.mk (decide (b.getD at_ 0=45)) ((b.take (fr+n)).drop fr),decide ((b.getD at_ 0=43\/b.getD at_ 0=45)/\Digs ((b.take (fr+n)).drop fr))):=by
 unfold Ze;have I:(fr:Int)+f.uA=((fr+n:Nat):Int):=oM
 have H:zk (fr:Int) ((fr+n:Nat):Int) b.length=true:=by unfold zk;simp<;>omega
 have S:Vc.sub b (fr:Int) ((fr+n:Nat):Int)=(b.take (fr+n)).drop fr:=rfl;have j:(((b.getD at_ 0).toNat:Int)=43)↔b.getD at_ 0=43:=zgO (k:=43) dE;have B:(((b.getD at_ 0).toNat:Int)=45)↔b.getD at_ 0=45:=zgO (k:=45) dE;obtain⟨t,U,J⟩:=zCs (s:=(b.take (fr+n)).drop fr) (by rw[mP,mI];omega);rw[zH ha,za,I,zh oM oM,za,H,za,zC,S];simp only[U,zc,za,decide_eq_decide.2 j,decide_eq_decide.2 B,decide_eq_decide.2 J];clear j B;generalize b.getD at_ 0=x;by_cases O:x=43
 ·simp[O]
 ·grind
theorem zla{N:Nat}{f:form}{b:uAU}{n:Nat}(j:f.uA=(n:Int))(B:n<=100)(H:b.length=n+1):QI N f b=some (rS f.uK n b):=by
 unfold QI rS;cases f.uK with
 |true=>rw[cond_true];have:=KL (N:=N) j B H (at_:=0) (fr:=1) oM oM (digits.mk false []);rw[show(b.take (1+n)).drop 1=b.drop 1 by rw[nQ oM]]at this;exact this
 |false=>rw[cond_false,j];have:=KL (N:=N) j B H (at_:=n) (fr:=0) oM oM (digits.mk false []);rw[uAn,nS]at this;exact this
def wS(ld ng:Bool)(s:uAU):uAU:=if ld then(if ng then 45 else 43)::s else s++[if ng then 45 else 43]
theorem zg8{N:Nat}{f:form}{d:digits}(j:d.s.length<=1000):qI N f d=some (wS f.uK d.neg d.s):=by
 unfold qI qY wS;cases d.neg<;>cases f.uK<;>simp[zN (show([45]:uAU).length+d.s.length<=1000000 by simp;omega),zN (show([43]:uAU).length+d.s.length<=1000000 by simp;omega),
  zN (show d.s.length+([45]:uAU).length<=1000000 by simp;omega),zN (show d.s.length+([43]:uAU).length<=1000000 by simp;omega)]
theorem zCX{ld ng:Bool}{s:uAU}:(wS ld ng s).length=s.length+1:=by unfold wS;split<;>simp
theorem zEz{ld ng:Bool}{n:Nat}{s:uAU}(H:s.length=n)(j:Digs s):rS ld n (wS ld ng s)=(digits.mk ng s,true):=by
 unfold rS wS;cases ld with
 |true=>cases ng<;>simp[j]
 |false=>
  have e:(s++[if ng then(45:UInt8)else 43]).getD n 0=if ng then 45 else 43:=by
   grind
  have B:(s++[if ng then(45:UInt8)else 43]).take n=s:=by
   grind
  simp only[nA,if_false,e,B];cases ng<;>simp[j]
def nib:uAU->uAU
 |[]=>[]
 |x::r=>UInt8.ofNat (x.toNat/16)::UInt8.ofNat (x.toNat%16)::nib r
theorem zfL:∀b,(nib b).length=2*b.length
 |[]=>rfl
 |x::r=>by rw[nib,mM,mM,zfL r,mM];omega
theorem zhG:∀a b,nib (a++b)=nib a++nib b
 |[],_=>rfl
 |x::a,b=>by rw[uAu,nib,nib,zhG a b];rfl
theorem zkd:∀b,∀c∈nib b,c.toNat<16
 |[],c,h=>by cases h
 |x::r,c,h=>by
  have j:=zb4 x;rw[nib]at h;rcases nB.1 h with rfl|h
  ·rw[UInt8.toNat_ofNat'];omega
  ·rcases nB.1 h with rfl|h
   ·rw[UInt8.toNat_ofNat'];omega
   ·exact zkd r c h
theorem qp{n:Nat}(h:n<=1000000):je 1 n=true:=by unfold je;simp;omega
theorem zoA{b:uAU}{i:Nat}(h:i<b.length):nib (b.take (i+1))=nib (b.take i)++[UInt8.ofNat ((b.getD i 0).toNat/16),UInt8.ofNat ((b.getD i 0).toNat%16)]:=by
 have e:b.take (i+1)=b.take i++[b.getD i 0]:=by simp_all
 rw[e,zhG];rfl
theorem ztF(c:UInt8):([(((c.toNat:Nat):Int)/2^(Int.toNat 4)),(bits .and .u8 ((c.toNat:Nat):Int) 15)].map toByte)=[UInt8.ofNat (c.toNat/16),UInt8.ofNat (c.toNat%16)]:=by
 rw[zCL];have B:(((c.toNat:Nat):Int)/2^(Int.toNat 4))=((c.toNat/16:Nat):Int):=by
  grind
 have j:((c.toNat:Nat):Int)%16=((c.toNat%16:Nat):Int):=oM
 rw[B,j];rfl
theorem zxN(c:UInt8):(inKb .u8 (((c.toNat:Nat):Int)/2^(Int.toNat 4))&&(inKb .u8 (bits .and .u8 ((c.toNat:Nat):Int) 15)&&true))=true:=by
 have hc:=zb4 c;rw[zCL];have j:(((c.toNat:Nat):Int)/2^(Int.toNat 4))=((c.toNat/16:Nat):Int):=by
  grind
 rw[j,Zl oM oM,Zl oM oM];rfl
def qz(h:uAU):uAU:=h.map fun c=>UInt8.ofNat (c.toNat+48)
def zdL(sg:Bool)(l:UInt8):Prop:=if sg then l.toNat=12\/l.toNat=13 else l.toNat=15
instance(sg:Bool)(l:UInt8):Decidable (zdL sg l):=by unfold zdL;infer_instance
def rP(sg:Bool)(D:Nat)(b:uAU):digits×Bool:=if∀c∈(nib b).take (2*b.length-1),c.toNat<=9 then(digits.mk (decide (((nib b).getD (2*b.length-1) 0).toNat=13)) ((qz ((nib b).take (2*b.length-1))).drop (2*b.length-1-D)),decide (zdL sg ((nib b).getD (2*b.length-1) 0)/\val ((qz ((nib b).take (2*b.length-1))).take (2*b.length-1-D))=0))else(digits.mk false [],false)
theorem zj7{h:uAU}(hh:∀c∈h,c.toNat<=9):Digs (qz h):=by intro x j;unfold qz at j;obtain⟨c,hc,rfl⟩:=uAb.1 j;have:=hh c hc;rw[UInt8.toNat_ofNat'];omega
def zcH(h:uAU)(t:Nat)(l:UInt8):uAU:=qz (h.take t)++h.drop t++[l]
theorem zx7{h:uAU}{t:Nat}{l:UInt8}(j:t<=h.length):(zcH h t l).length=h.length+1:=by
 unfold zcH qz
 grind
theorem zBO{h:uAU}{t:Nat}{l:UInt8}(j:t<h.length):(zcH h t l).getD t 0=h.getD t 0:=by
 unfold zcH;have e:(qz (h.take t)).length=t:=by unfold qz;simp[List.length_take];omega
 grind
theorem zx6{h:uAU}{t:Nat}{l:UInt8}(I:t<h.length):(zcH h t l).set t (UInt8.ofNat ((h.getD t 0).toNat+48))=zcH h (t+1) l:=by
 have e:(qz (h.take t)).length=t:=by unfold qz;simp[List.length_take];omega
 have H:h.drop t=h.getD t 0::h.drop (t+1):=by simp_all
 have j:h.take (t+1)=h.take t++[h.getD t 0]:=by
  grind
 have B:qz (h.take (t+1))=qz (h.take t)++[UInt8.ofNat ((h.getD t 0).toNat+48)]:=by
  rw[j];unfold qz
  grind
 unfold zcH
 grind
theorem zvk{h:uAU}{l:UInt8}:zcH h h.length l=qz h++[l]:=by
 unfold zcH
 grind
theorem zjc{N:Nat}{f:form}{D n:Nat}{h:uAU}{l:UInt8}(Z:f.uA=(D:Int))(O:h.length=n)(U:D<=n)(I:n<=1000)(hh:∀c∈h,c.toNat<=9)(j:Int)(ok:Bool)(b1:digits):
  ZF N 0 (n:Int) j ok f b1 (qz h++[l])=some (digits.mk (decide (j=13)) ((qz h).drop (n-D)),ok&&decide (val ((qz h).take (n-D))=0)):=by
 have hp:(qz h).length=n:=by unfold qz;rw[nN];exact O
 unfold ZF;have J:(n:Int)-f.uA=((n-D:Nat):Int):=oM
 have H:Vc.sub (qz h++[l]) (0+0) ((0+0)+(((n-D:Nat):Int)-0))=(qz h).take (n-D):=by
  unfold Vc.sub
  grind
 have B:Vc.sub (qz h++[l]) (0+((n-D:Nat):Int)) ((0+((n-D:Nat):Int))+((n:Int)-((n-D:Nat):Int)))=(qz h).drop (n-D):=by unfold Vc.sub;rw[show((0:Int)+((n-D:Nat):Int)).toNat=n-D by omega,show(0+((n-D:Nat):Int)+((n:Int)-((n-D:Nat):Int))).toNat=n by omega,uAK oM,nQ oM]
 obtain⟨t,Y,S⟩:=zsP (s:=(qz h).take (n-D)) (by rw[mI];omega) ((zj7 hh).take _);rw[J,zh oM oM,za,decide_eq_true (show(0:Int)<=((n-D:Nat):Int)by omega),decide_eq_true (show((n-D:Nat):Int)<=(n:Int)by omega),decide_eq_true (show(n:Int)<=(n:Int)by omega),H,B,Y,zc];cases ok<;>simp[S]
theorem zaw{N:Nat}{f:form}{D n:Nat}{h:uAU}{l:UInt8}(Y:f.uA=(D:Int))(I:h.length=n)(H:D<=n)(B:n<=1000)(Z:∀c∈h,c.toNat<16)(b1:digits):∀(k t:Nat),t<=n->n-t<k->
  (∀c∈h.take t,c.toNat<=9)->
  Yg N k 0 (n:Int) ((l.toNat:Nat):Int) (n:Int) (t:Int) f b1 (zcH h t l)=
   some (if∀c∈h,c.toNat<=9 then(digits.mk (decide (l.toNat=13)) ((qz h).drop (n-D)),decide (zdL f.uG l/\val ((qz h).take (n-D))=0))else(digits.mk false [],false))
 |0,t,_,hk,_=>oM
 |k+1,t,ht,hk,hin=>by
  show XN N (Yg N k) 0 (n:Int) ((l.toNat:Nat):Int) (n:Int) (t:Int) f b1 (zcH h t l)=_;unfold XN;rw[zb];by_cases h1:t<n
  ·have hlen:=zx7 (h:=h) (t:=t) (l:=l) oM;have hv:=zBO (h:=h) (t:=t) (l:=l) oM;have hm:h.getD t 0∈h:=zo5 oM;have hsm:=Z _ hm;rw[if_pos oM,decide_eq_true (show(0:Int)<=(t:Int)by omega),decide_eq_true (show(t:Int)<(n:Int)by omega),nY,za,show(0:Int)+(t:Int)=(t:Int)by omega,zH oM,za,zC,hv,zb];by_cases h2:9<(h.getD t 0).toNat
   ·grind
   ·have e:(((h.getD t 0).toNat:Nat):Int)+48=(((h.getD t 0).toNat+48:Nat):Int):=oM
    have e2:h.take (t+1)=h.take t++[h.getD t 0]:=by simp_all
    rw[if_neg oM,za,za,za,e,zW oM oM,Zl oM oM,nY,za,zh oM oM,za,mV,ZI,zx6 oM,
     show(t:Int)+1=((t+1:Nat):Int)by omega]
    refine zaw Y I H B Z b1 k (t+1) oM oM fun c hc=>?_
    grind
  ·have J:t=n:=oM
   subst J;have j:∀c∈h,c.toNat<=9:=by rw[<-I,List.take_length]at hin;exact hin
   rw[if_neg oM,if_pos j];have ef:zcH h t l=qz h++[l]:=by rw[<-I];exact zvk
   rw[ef];simp only[zjc Y I H B j];have O:(((l.toNat:Nat):Int)=13)↔l.toNat=13:=oM
   have S:(((l.toNat:Nat):Int)=12)↔l.toNat=12:=oM
   have U:(((l.toNat:Nat):Int)=15)↔l.toNat=15:=oM
   simp only[O,S,U];unfold zdL
   grind
theorem zax{N:Nat}(hN:3000<N){f:form}{D:Nat}{b:uAU}(U:f.uA=(D:Int))(Z:1<=b.length)(j:D<=2*b.length-1)(O:b.length<=300)(b1:digits):∀(k t:Nat),1<=t->t<=b.length->b.length-t<k->
  qw N k (.inr (b,(b.length:Int),(t:Int),f,b1,nib (b.take t)))=some (rP f.uG D b)
 |0,t,_,_,hk=>oM
 |k+1,t,h0,ht,hk=>by
  show Ql N (qw N k) b (b.length:Int) (t:Int) f b1 (nib (b.take t))=_;unfold Ql;rw[zb];by_cases S:t<b.length
  ·have I:(nib (b.take t)).length=2*t:=by rw[zfL,mI];omega
   rw[if_pos oM,zH S,za,zC,zxN,za,ztF,qp (by simp;omega),za,zh oM oM,za,<-zoA S,show(t:Int)+1=((t+1:Nat):Int)by omega];exact zax hN U Z j O b1 k (t+1) oM oM oM
  ·have H:t=b.length:=oM
   subst H;rw[List.take_length];have I:=zfL b;have Y:(((nib b).length:Nat):Int)-1=((2*b.length-1:Nat):Int):=oM
   have B:zk 0 ((2*b.length-1:Nat):Int) (nib b).length=true:=by unfold zk;simp<;>omega
   have J:nib b=zcH ((nib b).take (2*b.length-1)) 0 ((nib b).getD (2*b.length-1) 0):=by
    unfold zcH qz;rw[List.take_zero,List.map_nil,uAH,nS];have:=mW (2*b.length-1) (nib b);rw[uAl oM,List.drop_eq_nil_of_le oM]at this
    grind
   rw[if_neg oM,Y,zh oM oM,za,zH oM,za,za,za,B,za,zC,show((2*b.length-1:Nat):Int)-0=((2*b.length-1:Nat):Int)by omega];have:=zaw (N:=N) (f:=f) (D:=D) (n:=2*b.length-1) (h:=(nib b).take (2*b.length-1)) (l:=(nib b).getD (2*b.length-1) 0) U (by rw[mI];omega) j oM
    (fun c hc=>zkd b c (uAC hc)) b1 N 0 oM oM sI
   rw[<-J]at this;exact this
theorem zql{N:Nat}(O:3000<N){f:form}{D:Nat}{b:uAU}(H:f.uA=(D:Int))(I:1<=b.length)(j:D<=2*b.length-1)(B:b.length<=300):zb2 N f b=some (rP f.uG D b):=by
 unfold zb2;obtain⟨M,rfl⟩:∃M,N=M+1:=⟨N-1,oM⟩
 show Qm (M+1) (qw (M+1) M) b (b.length:Int) 0 f (digits.mk false [])=_;unfold Qm;have:=zoA (b:=b) (i:=0) oM;rw[List.take_zero]at this;rw[zb,if_pos oM,show(0:Int)=((0:Nat):Int)from rfl,zH oM,za,zC,zxN,za,ztF,qp sI,za,zh oM oM,za];have J:([]:uAU)++[UInt8.ofNat ((b.getD 0 0).toNat/16),UInt8.ofNat ((b.getD 0 0).toNat%16)]=nib (b.take (0+1)):=this.symm;rw[J,show((0:Nat):Int)+1=((0+1:Nat):Int)by omega];exact zax O H I j B _ M (0+1) oM oM oM
def pk(l:UInt8):uAU->uAU
 |[]=>[]
 |[a]=>[UInt8.ofNat (16*(a.toNat-48)+l.toNat)]
 |a::c::r=>UInt8.ofNat (16*(a.toNat-48)+(c.toNat-48))::pk l r
def odd(s:uAU):uAU:=if s.length%2=0 then 48::s else s
def wP(sg ng:Bool)(s:uAU):uAU:=pk (if sg then(if ng then 13 else 12)else 15) (odd s)
theorem zq6(l:UInt8):∀s,s.length%2=1->(pk l s).length=s.length/2+1
 |[],h=>by simp at h
 |[a],_=>by simp[pk]
 |a::c::r,h=>by simp only[mM]at h;rw[pk,mM,zq6 l r oM,mM,mM];omega
theorem zxM{l:UInt8}(B:l.toNat<16):∀s,s.length%2=1->Digs s->nib (pk l s)=(s.map fun c=>UInt8.ofNat (c.toNat-48))++[l]
 |[],h,_=>by simp at h
 |[a],_,hd=>by
  have ha:=(Digs.cons.1 hd).1;have e:(UInt8.ofNat (16*(a.toNat-48)+l.toNat)).toNat=16*(a.toNat-48)+l.toNat:=by rw[UInt8.toNat_ofNat'];omega
  rw[pk,nib,e,show(16*(a.toNat-48)+l.toNat)/16=a.toNat-48 by omega,show(16*(a.toNat-48)+l.toNat)%16=l.toNat by omega,UInt8.ofNat_toNat];rfl
 |a::c::r,h,hd=>by
  simp only[mM]at h;rw[Digs.cons,Digs.cons]at hd;obtain⟨ha,hc,j⟩:=hd;have e:(UInt8.ofNat (16*(a.toNat-48)+(c.toNat-48))).toNat=16*(a.toNat-48)+(c.toNat-48):=by rw[UInt8.toNat_ofNat'];omega
  rw[pk,nib,e,show(16*(a.toNat-48)+(c.toNat-48))/16=a.toNat-48 by omega,show(16*(a.toNat-48)+(c.toNat-48))%16=c.toNat-48 by omega,zxM B r oM j];rfl
theorem zCx(l:UInt8):∀(s:uAU)(i:Nat),s.length%2=1->2*i<s.length->
  (pk l s).getD i 0=UInt8.ofNat (16*((s.getD (2*i) 0).toNat-48)+(if 2*i+1<s.length then(s.getD (2*i+1) 0).toNat-48 else l.toNat))
 |[],i,h,_=>by simp at h
 |[a],i,_,h=>by
  have:i=0:=by simp at h;omega
  subst this;rfl
 |a::c::r,0,_,_=>by rw[if_pos sI];rfl
 |a::c::r,i+1,h,hi=>by
  simp only[mM]at h hi;have:=zCx l r i oM oM;rw[pk,List.getD_cons_succ,this,show 2*(i+1)=2*i+1+1 by omega,List.getD_cons_succ,List.getD_cons_succ,List.getD_cons_succ,List.getD_cons_succ]
  grind
theorem ztC(s:uAU):(odd s).length%2=1/\(odd s).length=2*(s.length/2)+1:=by
 unfold odd
 grind
theorem zxK{s:uAU}(h:Digs s):Digs (odd s):=by
 unfold odd;split
 ·exact Digs.cons.2 ⟨dE,h⟩
 ·exact h
theorem zo9{p:uAU}{t n:Nat}(B:t<n)(hp:p.length=n):((p.take t++List.replicate (n-t) 0).set t (p.getD t 0))=p.take (t+1)++List.replicate (n-(t+1)) 0:=by
 have e:(p.take t).length=t:=by rw[mI];omega
 have j:p.take (t+1)=p.take t++[p.getD t 0]:=by simp_all
 rw[List.set_append_right _ _ oM,e,Nat.sub_self,show n-t=(n-(t+1))+1 by omega,List.replicate_succ,List.set_cons_zero,j];simp
theorem KG{N:Nat}{l:UInt8}(hl:l.toNat<16){s:uAU}{n:Nat}(ho:s.length%2=1)(U:s.length/2+1=n)(H:n<=300)(B:Digs s):∀(k t:Nat),t<=n->n-t<k->
  yj N k ((l.toNat:Nat):Int) s (n:Int) (t:Int) ((pk l s).take t++List.replicate (n-t) 0)=some (pk l s)
 |0,t,_,hk=>oM
 |k+1,t,ht,hk=>by
  have j:(pk l s).length=n:=by rw[zq6 l s ho];exact U
  show Yc N (yj N k) ((l.toNat:Nat):Int) s (n:Int) (t:Int) _=_;unfold Yc;rw[zb];by_cases Z:t<n
  ·have O:((pk l s).take t++List.replicate (n-t) (0:UInt8)).length=n:=by rw[mO,mI,mK];omega
   have hat:=zCx l s t ho oM;have hD1:=jG B (show 2*t<s.length by omega);have S:(2:Int)*(t:Int)=((2*t:Nat):Int):=oM
   have e3:((2*t:Nat):Int)+1=((2*t+1:Nat):Int):=oM
   have step:∀w:Nat,w<16->(pk l s).getD t 0=UInt8.ofNat (16*((s.getD (2*t) 0).toNat-48)+w)->
     qZ N (yj N k) ((l.toNat:Nat):Int) s (t:Int) (w:Int) (n:Int) (t:Int) ((pk l s).take t++List.replicate (n-t) 0)=some (pk l s):=by
    intro w hw he;unfold qZ;have J:(((s.getD (2*t) 0).toNat:Nat):Int)-48=(((s.getD (2*t) 0).toNat-48:Nat):Int):=oM
    have e5:((((s.getD (2*t) 0).toNat-48:Nat):Int)*2^(Int.toNat 4))=((16*((s.getD (2*t) 0).toNat-48):Nat):Int):=by
     grind
    have w1:IntKind.wrap .u8 (((s.getD (2*t) 0).toNat-48:Nat):Int)=(((s.getD (2*t) 0).toNat-48:Nat):Int):=zW oM oM;rw[S,zh oM oM,za,zH oM,za,zH oM,za,zC,J,w1,e5,zW oM oM,zEE oM oM oM,
     show(((16*((s.getD (2*t) 0).toNat-48):Nat):Int)+(w:Int))%256=((16*((s.getD (2*t) 0).toNat-48)+w:Nat):Int)by omega,Zl oM oM,nY,za,zh oM oM,za,
     mV,ZI,<-he,zo9 Z j,show(t:Int)+1=((t+1:Nat):Int)by omega]
    exact KG hl ho U H B k (t+1) oM oM
   rw[if_pos oM,S,zh oM oM,za,e3,zh oM oM,za,zb,za,za];by_cases Y:2*t+1<s.length
   ·have hD2:=jG B Y;have J:(((s.getD (2*t+1) 0).toNat:Nat):Int)-48=(((s.getD (2*t+1) 0).toNat-48:Nat):Int):=oM
    rw[if_pos oM,zH Y,za,zC,J,zW oM oM]
    grind
   grind
  ·have I:t=n:=oM
   subst I;rw[if_neg oM,Nat.sub_self,List.replicate_zero,nM,nQ oM]
theorem KH{N:Nat}(S:3000<N){l:UInt8}(H:l.toNat<16){s:uAU}(ho:s.length%2=1)(O:s.length<=300)(I:Digs s):Za N ((l.toNat:Nat):Int) s=some (pk l s):=by
 unfold Za;have j:((s.length:Int)/2)+1=((s.length/2+1:Nat):Int):=oM
 have J:(zf (s.length:Int)&&decide (0<2)&&inKb .i64 ((s.length:Int)/2))=true:=by rw[zh oM oM];simp[zf]
 have B:X3 1 ((s.length/2+1:Nat):Int)=true:=by show(Nat.ble (1*(s.length/2+1)) 281474976710656&&Nat.ble (s.length/2+1) 9223372036854775807)=true;rw[mY oM,mY oM];rfl
 rw[J,za,j,zh oM oM,za,B,decide_eq_true rfl,nY,za,mV,mK];have:=KG (N:=N) H ho (n:=s.length/2+1) rfl oM I N 0 oM oM;rw[List.take_zero,uAH,Nat.sub_zero]at this;exact this
theorem zk8{N:Nat}(I:3000<N){f:form}{d:digits}(S:d.s.length<=200)(H:Digs d.s):JV N f d=some (wP f.uG d.neg d.s):=by
 have j:∀(w:Int)(l:UInt8),w=((l.toNat:Nat):Int)->l.toNat<16->yX N w d=some (pk l (odd d.s)):=by
  intro w l J B;subst J;unfold yX odd;have O:(zf (d.s.length:Int)&&decide (0<2))=true:=by simp[zf]
  rw[O,za,zb];by_cases h:d.s.length%2=0
  ·rw[if_pos oM,if_pos h,zN (by simp;omega),za];exact KH I B (by simp;omega) (by simp;omega) (Digs.cons.2 ⟨dE,H⟩)
  ·rw[if_neg oM,if_neg h];exact KH I B oM oM H
 unfold JV wP;rw[j 13 13 rfl dE,j 12 12 rfl dE,j 15 15 rfl dE]
 grind
theorem zwf{sg ng:Bool}{s:uAU}:(wP sg ng s).length=s.length/2+1:=by unfold wP;obtain⟨j,B⟩:=ztC s;rw[zq6 _ _ j,B];omega
theorem zxC{s:uAU}(j:Digs s):qz (s.map fun c=>UInt8.ofNat (c.toNat-48))=s:=by
 unfold qz;rw[List.map_map];conv=>rhs;rw[<-List.map_id s]
 refine uAk fun c hc=>?_
 have h:=j c hc;show UInt8.ofNat ((UInt8.ofNat (c.toNat-48)).toNat+48)=c;apply UInt8.toNat_inj.1;simp_all
theorem zEA{sg ng:Bool}{n:Nat}{s:uAU}(J:s.length=n)(hd:Digs s):rP sg n (wP sg ng s)=(digits.mk (sg&&ng) s,true):=by
 obtain⟨U,h2⟩:=ztC s;have j:=zxK hd;have O:=zwf (sg:=sg) (ng:=ng) (s:=s);obtain⟨l,S,B⟩:∃l:UInt8,l=(if sg then(if ng then 13 else 12)else 15)/\l.toNat<16:=⟨_,rfl,by cases sg<;>cases ng<;>decide⟩
 have H:nib (wP sg ng s)=((odd s).map fun c=>UInt8.ofNat (c.toNat-48))++[l]:=by unfold wP;rw[<-S];exact zxM B _ U j
 have Z:2*(wP sg ng s).length-1=(odd s).length:=oM
 unfold rP;rw[Z,H];have Y:(((odd s).map fun c=>UInt8.ofNat (c.toNat-48))++[l]).take (odd s).length=(odd s).map fun c=>UInt8.ofNat (c.toNat-48):=by
  grind
 have e2:(((odd s).map fun c=>UInt8.ofNat (c.toNat-48))++[l]).getD (odd s).length 0=l:=by rw[mN,nJ sI];simp
 rw[Y,e2,zxC j];have I:∀c∈(odd s).map fun c=>UInt8.ofNat (c.toNat-48),c.toNat<=9:=by intro x hx;obtain⟨c,hc,rfl⟩:=uAb.1 hx;have:=j c hc;rw[UInt8.toNat_ofNat'];omega
 rw[if_pos I];have e3:(odd s).drop ((odd s).length-n)=s:=by
  unfold odd;split
  ·rw[mM,J,show n+1-n=1 by omega,List.drop_one,List.tail_cons]
  ·rw[J,Nat.sub_self,nS]
 have e4:val ((odd s).take ((odd s).length-n))=0:=by
  unfold odd;split
  ·rw[mM,J,show n+1-n=1 by omega];rfl
  ·rw[J,Nat.sub_self,List.take_zero];rfl
 rw[e3,e4,S];cases sg<;>cases ng<;>simp[zdL]<;>decide
def bev(l:uAU):Nat:=l.foldl (fun a c=>256*a+c.toNat) 0
theorem We(l:uAU)(c:UInt8):bev (l++[c])=256*bev l+c.toNat:=by
 unfold bev
 grind
theorem j4{b:uAU}{i:Nat}(h:i<b.length):b.take (i+1)=b.take i++[b.getD i 0]:=by simp_all
theorem zsn(b:uAU):∀n,n<=b.length->bev (b.take n)<256^n
 |0,_=>by simp[bev]
 |n+1,h=>by have j:=zsn b n oM;have hc:=zb4 (b.getD n 0);rw[j4 oM,We,Nat.pow_succ];omega
def be:Nat->Nat->uAU
 |0,_=>[]
 |k+1,v=>be k (v/256)++[UInt8.ofNat (v%256)]
theorem zbJ:∀k v,(be k v).length=k
 |0,_=>rfl
 |k+1,v=>by rw[be,mO,zbJ k];rfl
theorem zyY:∀k v,bev (be k v)=v%256^k
 |0,v=>by simp[be,bev,Nat.mod_one]
 |k+1,v=>by
  have e:(UInt8.ofNat (v%256)).toNat=v%256:=by rw[UInt8.toNat_ofNat'];omega
  rw[be,We,zyY k,e,Nat.pow_succ,Nat.mul_comm (256^k) 256,Nat.mod_mul];omega
theorem zy0:∀(k v i:Nat),i<k->(be k v).getD i 0=UInt8.ofNat (v/256^(k-1-i)%256)
 |0,_,i,h=>oM
 |k+1,v,i,h=>by
  rw[be];by_cases hi:i<k
  ·rw[mN,nH (by rw[zbJ];exact hi),<-mN,zy0 k _ i hi,Nat.div_div_eq_div_mul,<-Nat.pow_succ',show(k-1-i).succ=k+1-1-i by omega]
  ·have:i=k:=oM
   subst this;rw[mN,nJ (by rw[zbJ];omega),zbJ,Nat.sub_self,show i+1-1-i=0 by omega,Nat.pow_zero,Nat.div_one];rfl
theorem zkt:∀(t m:Nat),fmt (t+1) m=UInt8.ofNat (48+m/10^t%10)::fmt t m
 |0,m=>by simp[fmt]
 |t+1,m=>by rw[fmt,zkt t (m/10),uAu,Nat.div_div_eq_div_mul,<-Nat.pow_succ'];rfl
def rB(sg:Bool)(D:Nat)(b:uAU):digits×Bool:=(digits.mk (sg&&decide (128<=(b.getD 0 0).toNat)) (fmt D (if sg&&decide (128<=(b.getD 0 0).toNat)then 256^b.length-bev b else bev b)),decide ((if sg&&decide (128<=(b.getD 0 0).toNat)then 256^b.length-bev b else bev b)<10^D))
theorem zay{N:Nat}{D m:Nat}(S:D<=100)(U:m<18446744073709551616)(ng:Bool)(H:digits):∀(k t:Nat),t<=D->D-t<k->
  Yh N k ((m/10^t:Nat):Int) ng (fmt t m) (D:Int) (t:Int) H=some (digits.mk ng (fmt D m),decide (m<10^D))
 |0,t,_,hk=>oM
 |k+1,t,ht,hk=>by
  show XO N (Yh N k) ((m/10^t:Nat):Int) ng (fmt t m) (D:Int) (t:Int) H=_;unfold XO;rw[zb];have hle:m/10^t<=m:=Nat.div_le_self _ _;by_cases h1:t<D
  ·have e0:(zf ((m/10^t:Nat):Int)&&decide (0<10))=true:=by
    unfold zf
    grind
   have O:((m/10^t:Nat):Int)%10=((m/10^t%10:Nat):Int):=oM
   have Y:((m/10^t:Nat):Int)/10=((m/10^(t+1):Nat):Int):=by rw[Nat.pow_succ,<-Nat.div_div_eq_div_mul];omega
   have I:m/10^t%10<10:=Nat.mod_lt _ dE;have hw:IntKind.wrap .u64 (((m/10^t%10:Nat):Int)+1)=((m/10^t%10:Nat):Int)+1:=by rw[wrap_u64];omega
   have j:Vc.sub ([48,49,50,51,52,53,54,55,56,57]:uAU) ((m/10^t%10:Nat):Int) (((m/10^t%10:Nat):Int)+1)=[UInt8.ofNat (48+m/10^t%10)]:=by
    have:∀q:Fin 10,Vc.sub ([48,49,50,51,52,53,54,55,56,57]:uAU) ((q.val:Nat):Int) (((q.val:Nat):Int)+1)=[UInt8.ofNat (48+q.val)]:=dE
    exact this ⟨m/10^t%10,I⟩
   have B:zk ((m/10^t%10:Nat):Int) (((m/10^t%10:Nat):Int)+1) ([48,49,50,51,52,53,54,55,56,57]:uAU).length=true:=by unfold zk;simp<;>omega
   have Z:inKb .u64 ((m/10^(t+1):Nat):Int)=true:=yq.2 ⟨Int.natCast_nonneg _,by
    show _<=(18446744073709551615:Int);have h:=Nat.div_le_self m (10^(t+1));generalize m/10^(t+1)=q at h⊢;omega⟩
   have e3:[UInt8.ofNat (48+m/10^t%10)]++fmt t m=fmt (t+1) m:=(zkt t m).symm;rw[if_pos oM,e0,za,za,O,hw,B,za,j,zN (by rw[zM];simp;omega),za,uAi,Y,Z,za,zh oM oM,za,e3,show(t:Int)+1=((t+1:Nat):Int)by omega];exact zay S U ng H k (t+1) oM oM
  ·have J:t=D:=oM
   subst J;rw[if_neg oM];congr 2;rw[decide_eq_decide];have hp:=pow_pos t;constructor
   ·intro h;have h:m/10^t=0:=oM
    simp_all
   ·intro h;rw[Nat.div_eq_of_lt h];rfl
theorem Z0{N:Nat}(J:3000<N){f:form}{D m:Nat}(j:f.uA=(D:Int))(I:D<=100)(H:m<18446744073709551616)(ng:Bool)(B:digits):ZG N (m:Int) ng f B=some (digits.mk ng (fmt D m),decide (m<10^D)):=by unfold ZG;rw[j];have:=zay (N:=N) I H ng B N 0 oM oM;rw[Nat.pow_zero,Nat.div_one]at this;exact this
theorem znR{b:uAU}(h:1<=b.length):∀n,1<=n->n<=b.length->bev (b.take n)/256^(n-1)=(b.getD 0 0).toNat
 |0,h0,_=>oM
 |1,_,_=>by rw[j4 oM,List.take_zero,We];simp[bev]
 |n+2,_,hn=>by have j:=znR h (n+1) oM oM;have hc:=zb4 (b.getD (n+1) 0);rw[j4 oM,We,show n+2-1=(n+1-1)+1 by omega,Nat.pow_succ',<-Nat.div_div_eq_div_mul,show(256*bev (b.take (n+1))+(b.getD (n+1) 0).toNat)/256=bev (b.take (n+1))by omega];exact j
theorem zaz{N:Nat}(S:3000<N){f:form}{D:Nat}{b:uAU}(H:f.uA=(D:Int))(I:D<=100)(hb:b.length=2\/b.length=4\/b.length=8)(d:digits):∀(k t:Nat),t<=b.length->b.length-t<k->
  Yi N k b ((bev (b.take t):Nat):Int) b (b.length:Int) (t:Int) f d=some (rB f.uG D b)
 |0,t,_,hk=>oM
 |k+1,t,ht,hk=>by
  show XP N (Yi N k) b ((bev (b.take t):Nat):Int) b (b.length:Int) (t:Int) f d=_;unfold XP;rw[zb];by_cases h1:t<b.length
  ·have B:=zsn b t oM;have hlt7:bev (b.take t)<72057594037927936:=Nat.lt_of_lt_of_le B (by have:=Nat.pow_le_pow_right (show 0<256 by decide) (show t<=7 by omega);simpa using this);have hc:=zb4 (b.getD t 0);have e1:((bev (b.take t):Nat):Int)*2^(Int.toNat 8)=((256*bev (b.take t):Nat):Int):=by
    grind
   have e2:bits .or .u64 (IntKind.wrap .u64 (((bev (b.take t):Nat):Int)*2^(Int.toNat 8))) (IntKind.wrap .u64 (((b.getD t 0).toNat:Nat):Int))=((bev (b.take (t+1)):Nat):Int):=by rw[e1,wrap_u64,wrap_u64,zDE oM oM oM,j4 h1,We];omega
   rw[if_pos oM,zH h1,za,zh oM oM,za,zC,e2,show(t:Int)+1=((t+1:Nat):Int)by omega];exact zaz S H I hb d k (t+1) oM oM
  ·have Y:t=b.length:=oM
   subst Y;have B:=zsn b b.length (mH _);have j:=znR (b:=b) oM b.length oM (mH _);rw[List.take_length]at B j⊢;rw[if_neg oM,zH (show 0<b.length by omega)|>fun h=>(show inIx 0 b.length=true from h),za];have eb:byteAt b 0=(((b.getD 0 0).toNat:Nat):Int):=rfl;have O:((128:Int)<=(((b.getD 0 0).toNat:Nat):Int))↔128<=(b.getD 0 0).toNat:=oM
   have hno:∀ng,ng=false->ZH N b ((bev b:Nat):Int) ng f d=some (digits.mk false (fmt D (bev b)),decide (bev b<10^D)):=by
    rintro _ rfl;unfold ZH;rw[cond_false];refine Z0 S H I ?_ _ _
    grind
   unfold rB;cases f.uG with
   |false=>rw[cond_false,hno _ rfl];simp
   |true=>
    rw[cond_true,eb];by_cases hg:128<=(b.getD 0 0).toNat
    ·rw[decide_eq_true (O.2 hg),decide_eq_true hg];simp only[nY,if_true];unfold ZH;rw[cond_true,zb];rcases hb with h|h|h
     ·rw[h]at B j⊢;have J:IntKind.wrap .u64 (-((bev b:Nat):Int))=18446744073709551616-((bev b:Nat):Int):=by rw[wrap_u64];omega
      have U:IntKind.wrap .u64 (IntKind.wrap .u64 (1*2^(8*((2:Nat):Int)).toNat)-1)=((2^16-1:Nat):Int):=dE
      have Z:bits .and .u64 (18446744073709551616-((bev b:Nat):Int)) ((2^16-1:Nat):Int)=((256^2-bev b:Nat):Int):=by rw[JQ dE,wrap_u64];omega
      rw[if_pos dE,zh dE dE,za,show(zf (8*((2:Nat):Int))&&Nat.ble (8*((2:Nat):Int)).toNat 64)=true by decide,za,J,U,Z];exact Z0 S H I oM _ _
     ·rw[h]at B j⊢;have J:IntKind.wrap .u64 (-((bev b:Nat):Int))=18446744073709551616-((bev b:Nat):Int):=by rw[wrap_u64];omega
      have U:IntKind.wrap .u64 (IntKind.wrap .u64 (1*2^(8*((4:Nat):Int)).toNat)-1)=((2^32-1:Nat):Int):=dE
      have Z:bits .and .u64 (18446744073709551616-((bev b:Nat):Int)) ((2^32-1:Nat):Int)=((256^4-bev b:Nat):Int):=by rw[JQ dE,wrap_u64];omega
      rw[if_pos dE,zh dE dE,za,show(zf (8*((4:Nat):Int))&&Nat.ble (8*((4:Nat):Int)).toNat 64)=true by decide,za,J,U,Z];exact Z0 S H I oM _ _
     ·rw[h]at B j⊢;have J:IntKind.wrap .u64 (-((bev b:Nat):Int))=((256^8-bev b:Nat):Int):=by rw[wrap_u64];omega
      rw[if_neg dE,J];exact Z0 S H I oM _ _
    ·grind
theorem zqm{N:Nat}(B:3000<N){f:form}{D:Nat}{b:uAU}(j:f.uA=(D:Int))(I:D<=100)(H:b.length=2\/b.length=4\/b.length=8):zb3 N f b=some (rB f.uG D b):=by unfold zb3;exact zaz B j I H _ N 0 oM oM
def wB(k:Nat)(ng:Bool)(s:uAU):uAU:=be k (if ng then(18446744073709551616-val s)%18446744073709551616 else val s)
theorem KI{N:Nat}{f:form}{x k:Nat}(hk:f.uE=(k:Int))(j:k<=8):∀(n t:Nat),t<=k->k-t<n->
  Zb N n (x:Int) (k:Int) (t:Int) f ((be k x).take t++List.replicate (k-t) 0)=some (be k x)
 |0,t,_,hn=>oM
 |n+1,t,ht,hn=>by
  have Y:=zbJ k x;show Yd N (Zb N n) (x:Int) (k:Int) (t:Int) f _=_;unfold Yd;rw[zb];by_cases B:t<k
  ·have H:((be k x).take t++List.replicate (k-t) (0:UInt8)).length=k:=by rw[mO,mI,mK];omega
   have J:(f.uE-1)-(t:Int)=((k-1-t:Nat):Int):=oM
   have O:(8:Int)*((k-1-t:Nat):Int)=((8*(k-1-t):Nat):Int):=oM
   have U:(zf ((8*(k-1-t):Nat):Int)&&Nat.ble (((8*(k-1-t):Nat):Int)).toNat 64)=true:=by rw[mV,mY oM,Bool.and_true];exact decide_eq_true oM
   have S:(x:Int)/2^(((8*(k-1-t):Nat):Int)).toNat=((x/256^(k-1-t):Nat):Int):=by
    have e:(2:Int)^(8*(k-1-t))=((256^(k-1-t):Nat):Int):=by
     rw[show(256:Nat)=2^8 from rfl,<-Nat.pow_mul]
     norm_cast
    grind
   have I:IntKind.wrap .u8 ((x/256^(k-1-t):Nat):Int)=((x/256^(k-1-t)%256:Nat):Int):=by rw[zbS];omega
   rw[if_pos oM,zh oM oM,za,J,zh oM oM,za,O,zh oM oM,za,U,za,zH oM,za,S,I,Zl oM oM,nY,za,
    zh oM oM,za,mV,ZI,<-zy0 k x t B,zo9 B Y,show(t:Int)+1=((t+1:Nat):Int)by omega]
   exact KI hk j n (t+1) oM oM
  ·have:t=k:=oM
   subst this
   grind
theorem KK{N:Nat}(H:3000<N){f:form}{x k:Nat}(hk:f.uE=(k:Int))(j:k<=8):Zd N (x:Int) f=some (be k x):=by
 unfold Zd;have B:X3 1 (k:Int)=true:=by show(Nat.ble (1*k) 281474976710656&&Nat.ble k 9223372036854775807)=true;rw[mY oM,mY oM];rfl
 rw[hk,B,decide_eq_true rfl,nY,za,mV,mK];have:=KI (N:=N) (x:=x) hk j N 0 oM oM
 grind
theorem KJ{N:Nat}(J:3000<N){f:form}{d:digits}{k:Nat}(hk:f.uE=(k:Int))(j:k<=8)(U:d.s.length<=18)(I:Digs d.s):∀(n t:Nat),t<=d.s.length->d.s.length-t<n->
  Zc N n ((val (d.s.take t):Nat):Int) (d.s.length:Int) (t:Int) f d=some (wB k d.neg d.s)
 |0,t,_,hn=>oM
 |n+1,t,ht,hn=>by
  show Ye N (Zc N n) ((val (d.s.take t):Nat):Int) (d.s.length:Int) (t:Int) f d=_;unfold Ye;rw[zb];have hv:=jv (I.take t);have B:val (d.s.take t)<1000000000000000000:=Nat.lt_of_lt_of_le hv (by
   have:=Nat.pow_le_pow_right (show 0<10 by decide) (show(d.s.take t).length<=18 by rw[mI];omega);simpa using this)
  by_cases H:t<d.s.length
  ·have hc:=jG I H;have O:(((d.s.getD t 0).toNat:Nat):Int)-48=(((d.s.getD t 0).toNat-48:Nat):Int):=oM
   have S:IntKind.wrap .u64 (IntKind.wrap .u64 (10*((val (d.s.take t):Nat):Int))+IntKind.wrap .u64 (IntKind.wrap .u8 ((((d.s.getD t 0).toNat:Nat):Int)-48)))=((val (d.s.take (t+1)):Nat):Int):=by rw[O,zW oM oM,wrap_u64,wrap_u64,wrap_u64,j4 H,Ya];omega
   rw[if_pos oM,zH H,za,zh oM oM,za,zC,S,show(t:Int)+1=((t+1:Nat):Int)by omega];exact KJ J hk j U I n (t+1) oM oM
  ·have:t=d.s.length:=oM
   subst this;rw[List.take_length]at B⊢;rw[if_neg oM];unfold wB;cases d.neg with
   |true=>
    have e:IntKind.wrap .u64 (-((val d.s:Nat):Int))=(((18446744073709551616-val d.s)%18446744073709551616:Nat):Int):=by rw[wrap_u64];omega
    rw[cond_true,e,KK J hk j];rfl
   |false=>rw[cond_false,KK J hk j];rfl
theorem zk9{N:Nat}(I:3000<N){f:form}{d:digits}{k:Nat}(hk:f.uE=(k:Int))(j:k<=8)(B:d.s.length<=18)(H:Digs d.s):JW N f d=some (wB k d.neg d.s):=by unfold JW;have:=KJ (N:=N) I hk j B H N 0 oM oM;rw[List.take_zero]at this;exact this
theorem zCY{k:Nat}{ng:Bool}{s:uAU}:(wB k ng s).length=k:=zbJ _ _
def binW(n:Nat):Nat:=if n<=4 then 2 else if n<=9 then 4 else 8
theorem zEB{sg ng:Bool}{n:Nat}{s:uAU}(S:n<=18)(B:s.length=n)(H:Digs s)(O:ng=true->sg=true/\val s≠0):rB sg n (wB (binW n) ng s)=(digits.mk ng s,true):=by
 have hv:=jv H;rw[B]at hv;have U:fmt n (val s)=s:=by rw[<-B];exact ztT H
 have j:binW n=2/\val s<10000\/binW n=4/\val s<1000000000\/binW n=8/\val s<1000000000000000000:=by
  unfold binW;have J:∀m,n<=m->val s<10^m:=fun m I=>Nat.lt_of_lt_of_le hv (Nat.pow_le_pow_right dE I)
  grind
 have key:∀(k x:Nat),1<=k->(be k x).getD 0 0=UInt8.ofNat (x/256^(k-1)%256):=fun k x h=>zy0 k x 0 oM
 have Y:∀(k x:Nat),1<=k->((be k x).getD 0 0).toNat=x/256^(k-1)%256:=fun k x h=>by rw[key k x h,UInt8.toNat_ofNat'];omega
 unfold rB wB;rw[zyY,zbJ]
 grind
theorem zaH(N:Nat)(neg:Bool)(b:Decimal):∀(m n:Nat)(l:uAU)(s:Nat),s=m->m<n->Digs l->(∃c r,l=c::r/\c≠48)->l.length<=2000->s<=2000->
  YB N n neg l (s:Int) b=some (Decimal.mk neg (dstr (zX s (val l)).1) ((zX s (val l)).2:Int))
 |m,0,l,s,hm,hn,_,_,_,_=>oM
 |m,n+1,l,s,hm,hn,hd,⟨c,r,hcr,hc⟩,hl,hs=>by
  have j:dstr (val l)=l:=zm3 hd fun Y Z h=>by rw[hcr]at h;cases h;exact hc
  show X6 N (YB N n) neg l (s:Int) b=_;unfold X6;rw[zb];cases s with
  |zero=>rw[if_neg oM];simp only[zX,j]
  |succ q=>
   rcases List.eq_nil_or_concat l with I|⟨t,x,I⟩
   ·rw[I]at hcr;cases hcr
   ·rw[List.concat_eq_append]at I;subst I;rw[mO]at hl;simp only[mM,uAO]at hl;rw[Digs.append,Digs.cons]at hd;have hv:=Ya t x;have hx:=hd.2.1;have U:(((t++[x]).length:Int)-1)=(t.length:Int):=sI
    have O:byteAt (t++[x]) (t.length:Int)=((x.toNat:Nat):Int):=by unfold byteAt;rw[mV,mN,nJ (mH _),Nat.sub_self];rfl
    have H:(((x.toNat:Nat):Int)=48)↔x=48:=zgO (k:=48) dE;rw[if_pos oM,U,zh oM oM,za,zH sI,za,O,zb];by_cases B:x=48
    ·have ht:∃c r,t=c::r/\c≠48:=by
      cases t with
      |nil=>cases hcr;exact absurd B hc
      |cons Y Z=>cases hcr;exact⟨_,_,rfl,hc⟩
     have J:zk 0 (t.length:Int) (t++[x]).length=true:=by unfold zk;simp<;>omega
     have e3:jy (t++[x]) (t.length:Int)=t:=by unfold jy;simp
     have S:zX (q+1) (val (t++[x]))=zX q (val t):=by subst B;rw[hv,zX,if_pos sI];congr 1;simp
     rw[if_pos (H.2 B),za,J,za,show((q+1:Nat):Int)-1=(q:Int)by omega,zh oM oM,za,e3,
      zaH N neg b q n t q rfl oM hd.1 ht oM oM,S]
    ·have hx1:x.toNat≠48:=fun e=>B (UInt8.toNat_inj.1 e)
     have S:zX (q+1) (val (t++[x]))=(val (t++[x]),q+1):=by rw[zX,if_neg (by rw[hv];omega)]
     rw[if_neg (fun h=>B (H.1 h)),S,j]
theorem zaI{N:Nat}(O:3000<N)(neg:Bool){l:uAU}(B:Digs l)(J:l.length<=2000){s:Nat}(I:s<=2000)(H:l=[]\/∃c r,l=c::r/\c≠48)(b:Decimal):
  YC N neg l (s:Int) b=some (jS (canon neg (val l) s)):=by
 unfold YC;rw[zb];rcases H with rfl|⟨c,r,j,hc⟩
 ·rw[if_pos rfl];rw[zb0,qE];rfl
 ·rw[if_neg (by rw[j];simp),zaH N neg b s N l s rfl oM B ⟨c,r,j,hc⟩ J I];have hv:val l≠0:=fun e=>by have:=(za1 B).2 e;rw[j,zb5,if_neg hc]at this;cases this
  unfold canon;rw[if_neg hv];rfl
theorem zaG{N:Nat}(J:3000<N)(neg:Bool){s:Nat}(I:s<=2000)(b:Decimal):∀(n:Nat)(l:uAU),l.length<n->Digs l->l.length<=2000->
  YA N n neg l (s:Int) b=some (jS (canon neg (val l) s))
 |0,l,h,_,_=>oM
 |n+1,l,h,hd,hl=>by
  show X5 N (YA N n) neg l (s:Int) b=_;unfold X5;rw[zb];cases l with
  |nil=>rw[if_neg sI];exact zaI J neg hd hl I (.inl rfl) b
  |cons c r=>
   have B:(((c.toNat:Nat):Int)=48)↔c=48:=zgO (k:=48) dE;have S:byteAt (c::r) 0=((c.toNat:Nat):Int):=rfl;have j:inIx 0 (c::r).length=true:=zH (i:=0) sI;simp only[mM]at h hl;rw[if_pos (by simp<;>omega),j,za,S,zb];by_cases hc:c=48
   ·have H:zk 1 ((c::r).length:Int) (c::r).length=true:=by unfold zk;simp<;>omega
    have O:zO (c::r) 1=r:=rfl;rw[if_pos (B.2 hc),H,za,O,zaG J neg I b n r oM (Digs.cons.1 hd).2 oM];subst hc;rw[jO];simp
   ·rw[if_neg (fun h=>hc (B.1 h))];exact zaI J neg hd (by simp<;>omega) I (.inr ⟨c,r,rfl,hc⟩) b
theorem zhY{N:Nat}(I:3000<N)(neg:Bool){l:uAU}(B:Digs l)(H:l.length<=2000){s:Nat}(j:s<=2000):zgI N neg l (s:Int)=some (jS (canon neg (val l) s)):=by unfold zgI;exact zaG I neg j _ N l oM B H
theorem zcx{N:Nat}(B:3000<N)(neg:Bool){sc:Int}(j: -1000<=sc)(H:sc<=1000)(b:Decimal):∀(n k:Nat)(l:uAU),k<n->k<=1000->Digs l->l.length+k<=2000->((0<= -(k:Int)->k=0))->
  JZ N n neg l sc (-(k:Int)) b=some (jS (canon neg (val l*10^k) sc.toNat))
 |0,k,_,h,_,_,_,_=>oM
 |n+1,k,l,h,hk,hd,hl,_=>by
  show Jh N (JZ N n) neg l sc (-(k:Int)) b=_;unfold Jh;rw[zb];cases k with
  |zero=>
   have e:jF sc 0=((sc.toNat:Nat):Int):=by unfold jF;split<;>omega
   rw[if_neg oM,e,zhY B neg hd oM oM,zc,Nat.pow_zero,mX]
  |succ k=>
   have e: -((k+1:Nat):Int)+1= -(k:Int):=oM
   rw[if_pos oM,zN (by simp;omega),za,zh oM oM,za,e,
    zcx B neg j H b n k (l++[48]) oM oM (Digs.append.2 ⟨hd,dE⟩) (by simp;omega) oM,Ya,Nat.pow_succ]
   have:(10*val l+((48:UInt8).toNat-48))*10^k=val l*(10^k*10):=by rw[show(48:UInt8).toNat-48=0 from rfl,uAa,Nat.mul_comm 10,Nat.mul_assoc,Nat.mul_comm 10]
   rw[this]
theorem zva{N:Nat}(H:3000<N)(neg:Bool){l:uAU}(B:Digs l)(O:l.length<=500){sc:Int}(j: -1000<=sc)(J:sc<=1000):zdT N neg l sc=some (jS (canon neg (val l*10^(-sc).toNat) sc.toNat)):=by
 unfold zdT;by_cases h:sc<=0
 ·have e:sc= -((-sc).toNat:Int):=oM
  have:=zcx (N:=N) H neg j J (Decimal.mk false [] 0) N (-sc).toNat l oM oM B oM oM;rw[<-e]at this;exact this
 ·obtain⟨M,rfl⟩:∃M,N=M+1:=⟨N-1,oM⟩
  show Jh (M+1) (JZ (M+1) M) neg l sc sc _=_;unfold Jh;have e:jF sc 0=((sc.toNat:Nat):Int):=by unfold jF;split<;>omega
  have I:(-sc).toNat=0:=oM
  rw[zb,if_neg oM,e,zhY H neg B oM oM,zc,I,Nat.pow_zero,mX]
theorem zqo{b:uAU}{i:Nat}(h:i<b.length):b.take (i+1)=b.take i++[b.getD i 0]:=by rw[List.take_add_one,mJ h,mN,mJ h];rfl
theorem zeP{N:Nat}{x:F}{n:Nat}(H:x.uA%18=(n:Int))(I:0<=x.uA)(j:n<18):∀(k i:Nat)(s:uAU),i<=n+1->n+1-i<k->Digs s->s.length=i->
  ∃l,Jm N k s (i:Int) x=some l/\Digs l/\l.length=n+1
 |0,i,s,_,hk,_,_=>oM
 |k+1,i,s,hi,hk,hs,hl=>by
  show∃l,zbv N (Jm N k) s (i:Int) x=some l/\_;unfold zbv;have S:(zf x.uA&&decide (0<18))=true:=by simp[zf,I]
  rw[S,za,H,zh oM oM,za,zb];by_cases h:i<n+1
  ·have step:∀d:Nat,d<10->∃l,VK N (Jm N k) s (i:Int) (d:Int) x=some l/\Digs l/\l.length=n+1:=by intro d O;unfold VK;have B:=Xu O;rw[show(48:Int)+(d:Int)=((48+d:Nat):Int)by omega,zW oM oM,Zl oM oM,nY,za];show∃l,(chk (zY s [toByte ((48+d:Nat):Int)])<|chk (inKb .i64 ((i:Int)+1))<|Jm N k (s++[toByte ((48+d:Nat):Int)]) ((i:Int)+1) x)=some l/\_;rw[ZI,zN (by simp;omega),za,zh oM oM,za,show(i:Int)+1=((i+1:Nat):Int)by omega];refine zeP H I j k (i+1) _ oM oM (Digs.append.2 ⟨hs,?_⟩) (by simp;omega);intro c hc;rw[mL]at hc;rw[hc,B];omega
   rw[if_pos oM,zb];by_cases c:i<x.Value.length
   ·have J:(zf ((((x.Value.getD i 0).toNat:Nat):Int))&&decide (0<10))=true:=by simp[zf]
    rw[if_pos oM,zH c,za,zC,J,za,show(((x.Value.getD i 0).toNat:Nat):Int)%10=(((x.Value.getD i 0).toNat%10:Nat):Int)by omega];exact step _ (Nat.mod_lt _ dE)
   ·rw[if_neg oM];exact step 0 dE
  ·rw[if_neg oM];exact⟨s,rfl,hs,oM⟩
theorem zpa{N:Nat}(B:3000<N){x:F}(j:0<=x.uA):∃l,zkv N x=some l/\Digs l/\l.length=x.uA.toNat%18+1:=by unfold zkv;exact zeP (n:=x.uA.toNat%18) oM j oM N 0 [] oM oM Digs.nil rfl
end Go.Proofs.C06
