/-
  A part of the proof of the laws.
-/
import Derived.Lib.SlTrimSet
import Derived.Lib.Strings
import Derived.Test.YthajckhlgoonbaaGreatDoorS2
import Derived.Test.YthajckhlgoonbaaGreatDoorPa
import Derived.Laws.Entries
import Derived.Test.YthajckhlgoonbaaGreatDoorS4
section
namespace Go.Dg
def Digs(l:uBH):Prop:=∀c∈l,48<=c.toNat/\c.toNat<=57
instance(l:uBH):Decidable (Digs l):=by unfold Digs;infer_instance
theorem Digs.nil:Digs []:=by simp[Digs]
theorem Digs.cons{c:UInt8}{l:uBH}:Digs (c::l)↔(48<=c.toNat/\c.toNat<=57)/\Digs l:=by simp[Digs]
theorem Digs.append{a b:uBH}:Digs (a++b)↔Digs a/\Digs b:=by
 unfold Digs;constructor
 ·intro h;exact⟨fun c hc=>h c (uAz _ hc),fun c hc=>h c (uBd _ hc)⟩
 ·rintro⟨h1,h2⟩ c hc;rcases nJ.1 hc with h|h
  ·exact h1 c h
  ·exact h2 c h
theorem Digs.take{l:uBH}(h:Digs l)(n:Nat):Digs (l.take n):=fun c hc=>h c (uBt hc)
theorem Digs.drop{l:uBH}(h:Digs l)(n:Nat):Digs (l.drop n):=fun c hc=>h c (uBF hc)
theorem Digs.zeros(n:Nat):Digs (List.replicate n 48):=fun c hc=>by rw[(List.mem_replicate.1 hc).2];decide
def val(l:uBH):Nat:=l.foldl (fun a c=>10*a+(c.toNat-48)) 0
theorem VZ:∀(l:uBH)(a:Nat),l.foldl (fun a c=>10*a+(c.toNat-48)) a=a*10^l.length+val l
 |[],a=>by simp[val]
 |c::l,a=>by
  have h1:=VZ l (10*a+(c.toNat-48));have h2:=VZ l (10*0+(c.toNat-48));have h3:val (c::l)=l.foldl (fun a c=>10*a+(c.toNat-48)) (10*0+(c.toNat-48)):=rfl;rw[List.foldl_cons,h1,h3,h2,nC,Nat.pow_succ,uAX,uAX];have e:10*a*10^l.length=a*(10^l.length*10):=by rw[Nat.mul_comm 10 a,uAr,Nat.mul_comm 10]
  omega
theorem zoN:val []=0:=rfl
theorem ZL(c:UInt8)(l:uBH):val (c::l)=(c.toNat-48)*10^l.length+val l:=by have:=VZ l (10*0+(c.toNat-48));have h3:val (c::l)=l.foldl (fun a c=>10*a+(c.toNat-48)) (10*0+(c.toNat-48)):=rfl;rw[h3,this,Nat.mul_zero,uAU]
theorem QZ(a b:uBH):val (a++b)=val a*10^b.length+val b:=by
 have:val (a++b)=b.foldl (fun a c=>10*a+(c.toNat-48)) (val a):=by unfold val;rw[List.foldl_append]
 rw[this,VZ]
theorem zeE(l:uBH)(c:UInt8):val (l++[c])=10*val l+(c.toNat-48):=by rw[QZ,ZL,zoN];simp;omega
theorem pow_pos(n:Nat):0<10^n:=Nat.pow_pos (by decide)
theorem ym:∀{l:uBH},Digs l->val l<10^l.length
 |[],_=>by simp[val]
 |c::l,h=>by rw[Digs.cons]at h;have ih:=ym h.2;rw[ZL,nC,Nat.pow_succ];have:(c.toNat-48)*10^l.length<=9*10^l.length:=uAl _ (by omega);omega
theorem Y4:∀n,val (List.replicate n 48)=0
 |0=>rfl
 |n+1=>by rw[uAa,ZL,Y4 n];simp
theorem Y3(n:Nat)(l:uBH):val (List.replicate n 48++l)=val l:=by rw[QZ,Y4];simp
theorem yJ(l:uBH)(n:Nat):val (l++List.replicate n 48)=val l*10^n:=by rw[QZ,Y4,nE];simp
theorem zeD{l:uBH}(h:Digs l)(h0:val l=0):∀c∈l,c=48:=by
 induction l with
 |nil=>simp
 |cons c l ih=>
  rw[Digs.cons]at h;rw[ZL]at h0;have hp:=pow_pos l.length;have h1:(c.toNat-48)*10^l.length=0:=by omega
  have h2:c.toNat-48=0:=by
   rcases Nat.mul_eq_zero.1 h1 with h|h
   ·exact h
   ·omega
  intro x hx;rcases nS.1 hx with rfl|hx
  ·apply UInt8.toNat_inj.1;show x.toNat=48;omega
  ·exact ih h.2 (by omega) x hx
theorem zri{l:uBH}(h:∀c∈l,c=48):val l=0:=by rw[List.eq_replicate_of_mem h,Y4]
theorem zrG{a b x y P:Nat}(hx:x<P)(hy:y<P)(h:a*P+x=b*P+y):a=b/\x=y:=by
 have h1:a=b:=by
  rcases Nat.lt_trichotomy a b with h'|h'|h'
  ·have:=uAl P (show a+1<=b from h');rw[uAB]at this;omega
  ·exact h'
  ·have:=uAl P (show b+1<=a from h');rw[uAB]at this;omega
 subst h1;exact⟨rfl,by omega⟩
theorem zim:∀{a b:uBH},Digs a->Digs b->a.length=b.length->val a=val b->a=b
 |[],[],_,_,_,_=>rfl
 |[],_::_,_,_,h,_=>by simp at h
 |_::_,[],_,_,h,_=>by simp at h
 |x::a,y::b,ha,hb,hl,h=>by
  rw[Digs.cons]at ha hb;simp only[nC,Nat.add_right_cancel_iff]at hl;rw[ZL,ZL,hl]at h;have h1:=ym ha.2;rw[hl]at h1;obtain⟨e1,e2⟩:=zrG h1 (ym hb.2) h;rw[zim ha.2 hb.2 hl e2];have:x.toNat=y.toNat:=by omega
  rw[UInt8.toNat_inj.1 this]
theorem jB{l:uBH}(h:Digs l){m:Nat}(hm:m<=l.length):val (l.take (l.length-m))=val l/10^m/\val (l.drop (l.length-m))=val l%10^m:=by
 have e:val l=val (l.take (l.length-m))*10^m+val (l.drop (l.length-m)):=by have:=QZ (l.take (l.length-m)) (l.drop (l.length-m));rw[nL,nD]at this;rw[this];congr 3;omega
 have hlt:val (l.drop (l.length-m))<10^m:=by have:=ym (h.drop (l.length-m));rw[nD]at this;rwa [show l.length-(l.length-m)=m by omega]at this
 have hp:=pow_pos m;constructor
 ·rw[e,Nat.mul_comm,Nat.mul_add_div hp,uBr hlt,uAE]
 ·rw[e,Nat.mul_comm,Nat.mul_add_mod,Nat.mod_eq_of_lt hlt]
def fmt:Nat->Nat->uBH
 |0,_=>[]
 |n+1,v=>fmt n (v/10)++[UInt8.ofNat (48+v%10)]
theorem js:∀n v,(fmt n v).length=n
 |0,_=>rfl
 |n+1,v=>by rw[fmt,nH,js n];rfl
theorem zh0{d:Nat}(h:d<10):(UInt8.ofNat (48+d)).toNat=48+d:=by rw[UInt8.toNat_ofNat'];omega
theorem yC:∀n v,Digs (fmt n v)
 |0,_=>Digs.nil
 |n+1,v=>by rw[fmt,Digs.append,Digs.cons];refine⟨yC n _,?_,Digs.nil⟩;rw[zh0 (uBs _ (by decide))];omega
theorem VE:∀n v,v<10^n->val (fmt n v)=v
 |0,v,h=>by
  have:v=0:=by simpa using h
  rw[this];rfl
 |n+1,v,h=>by rw[fmt,zeE,VE n (v/10) (by rw[Nat.pow_succ]at h;omega),zh0 (uBs _ (by decide))];omega
theorem zpn{l:uBH}(h:Digs l):fmt l.length (val l)=l:=
 zim (yC _ _) h (js _ _) (VE _ _ (ym h))
theorem zw6{l:uBH}{n v:Nat}(h:Digs l)(hl:l.length=n)(hv:val l=v):l=fmt n v:=by subst hl hv;exact (zpn h).symm
def tz(l:uBH):uBH:=l.dropWhile (· ==48)
theorem zix(c:UInt8)(l:uBH):tz (c::l)=if c=48 then tz l else c::l:=by unfold tz;rw[List.dropWhile_cons];by_cases h:c=48<;>simp[h]
theorem ztS(l:uBH):Lib.trimLeftS l [48]=tz l:=by unfold Lib.trimLeftS tz;congr 1;funext c;by_cases h:c=48<;>simp[h]
theorem Km:∀l,val (tz l)=val l
 |[]=>rfl
 |c::l=>by
  rw[zix];split
  ·rename_i h;subst h;rw[Km l,ZL];simp
  ·rfl
theorem Digs.tz{l:uBH}(h:Digs l):Digs (tz l):=fun c hc=>h c ((uBz _).subset hc)
theorem zwd(l:uBH):(tz l).length<=l.length:=(uBz _).length_le
theorem zdH{l:uBH}{c:UInt8}{r:uBH}(h:tz l=c::r):c≠48:=by
 induction l with
 |nil=>cases h
 |cons x l ih=>
  rw[zix]at h;split at h
  ·exact ih h
  ·rename_i hx;cases h;exact hx
theorem zbR{l:uBH}(h:Digs l):tz l=[]↔val l=0:=by
 constructor
 ·intro e;rw[<-Km,e];rfl
 ·intro e;rcases hl:tz l with _|⟨c,r⟩
  ·rfl
  ·have:=zeD h.tz (by rw[Km];exact e) c (by rw[hl];simp);exact absurd this (zdH hl)
theorem zbS{l:uBH}(h:Digs l)(h0:val l≠0):10^((tz l).length-1)<=val l/\val l<10^(tz l).length/\1<=(tz l).length:=by
 have hd:=h.tz;have e:=Km l;rcases hl:tz l with _|⟨c,r⟩
 ·exact absurd ((zbR h).1 hl) h0
 ·have hc:=zdH hl;rw[hl]at hd e;refine⟨?_,by rw[<-e];exact ym hd,by simp⟩;rw[<-e,ZL,nC,Nat.add_sub_cancel];rw[Digs.cons]at hd;have h1:1<=c.toNat-48:=by
   have:c.toNat≠48:=fun h=>hc (UInt8.toNat_inj.1 h)
   omega
  have:=uAl (10^r.length) h1;omega
theorem zxx{a b:uBH}(ha:Digs a)(hb:Digs b)(h:val a=val b):tz a=tz b:=by
 by_cases h0:val a=0
 ·rw[(zbR ha).2 h0,(zbR hb).2 (h▸h0)]
 ·obtain⟨a1,a2,a3⟩:=zbS ha h0;obtain⟨b1,b2,b3⟩:=zbS hb (h▸h0);refine zim ha.tz hb.tz ?_ (by rw[Km,Km,h]);rcases Nat.lt_trichotomy (tz a).length (tz b).length with hl|hl|hl
  ·have:=uAp (show 0<10 by decide) (show(tz a).length<=(tz b).length-1 by omega);omega
  ·exact hl
  ·have:=uAp (show 0<10 by decide) (show(tz b).length<=(tz a).length-1 by omega);omega
def dstr(v:Nat):uBH:=tz (fmt v v)
theorem KI(v:Nat):v<10^v:=Nat.lt_pow_self (by decide)
theorem QD(v:Nat):Digs (dstr v):=(yC v v).tz
theorem JD(v:Nat):val (dstr v)=v:=by unfold dstr;rw[Km,VE v v (KI v)]
theorem zl1{l:uBH}(h:Digs l):dstr (val l)=tz l:=
 zxx (yC _ _) h (VE _ _ (KI _))
theorem ziw(v:Nat):tz (dstr v)=dstr v:=by have:=zl1 (QD v);rw[JD]at this;exact this.symm
theorem zfY{v:Nat}:dstr v=[]↔v=0:=by rw[<-ziw,zbR (QD v),JD]
theorem zpv{l:uBH}(h:Digs l)(h0:∀c r,l=c::r->c≠48):dstr (val l)=l:=by
 rw[zl1 h];cases l with
 |nil=>rfl
 |cons c r=>rw[zix,if_neg (h0 c r rfl)]
theorem zl3{v:Nat}(h:v≠0):10^((dstr v).length-1)<=v/\v<10^(dstr v).length/\1<=(dstr v).length:=by have:=zbS (QD v) (by rw[JD];exact h);rwa [JD,ziw]at this
theorem zl2{v n:Nat}(h:v<10^n):(dstr v).length<=n:=by
 by_cases h0:v=0
 ·subst h0;rw[zfY.2 rfl];simp
 ·obtain⟨h1,_,h3⟩:=zl3 h0;rcases uA9 n (dstr v).length with hl|hl
  ·have:=uAp (show 0<10 by decide) (show n<=(dstr v).length-1 by omega);omega
  ·exact hl
end Go.Dg
end
section
namespace Go.Dg
def jb:Nat->Nat->Nat×Nat
 |0,v=>(v,0)
 |s+1,v=>if v%10=0 then jb s (v/10)else(v,s+1)
theorem qk:∀(s v:Nat),v=(jb s v).1*10^(s-(jb s v).2)/\(jb s v).2<=s/\((jb s v).2=0\/(jb s v).1%10≠0)
 |0,v=>⟨by simp[jb],nB _,.inl rfl⟩
 |s+1,v=>by
  by_cases h:v%10=0
  ·have e:jb (s+1) v=jb s (v/10):=by rw[jb,if_pos h]
   obtain⟨h1,h2,h3⟩:=qk s (v/10);rw[e];refine⟨?_,by omega,h3⟩;rw[show s+1-(jb s (v/10)).2=(s-(jb s (v/10)).2)+1 by omega,Nat.pow_succ,<-uAr,<-h1];omega
  ·have e:jb (s+1) v=(v,s+1):=by rw[jb,if_neg h]
   rw[e];exact⟨by simp,nB _,.inr h⟩
theorem zkC{s v:Nat}(h:v≠0):(jb s v).1≠0:=fun e=>by have:=(qk s v).1;rw[e]at this;simp at this;exact h this
def canon(neg:Bool)(v s:Nat):Bool×uBH×Nat:=if v=0 then(false,[48],0)else(neg,dstr (jb s v).1,(jb s v).2)
theorem yI(neg:Bool)(s:Nat):canon neg 0 s=(false,[48],0):=by unfold canon;rw[if_pos rfl]
theorem zq1{neg neg':Bool}{v s:Nat}(h:v≠0->neg=neg'):canon neg v s=canon neg' v s:=by
 by_cases h0:v=0
 ·subst h0;rw[yI,yI]
 ·rw[h h0]
theorem zcy(neg:Bool)(v s:Nat):val (canon neg v s).2.1*10^s=v*10^(canon neg v s).2.2:=by
 unfold canon;split
 ·rename_i h;subst h;simp[val]
 ·obtain⟨h1,h2,_⟩:=qk s v;dsimp only;rw[JD];have:10^s=10^(s-(jb s v).2)*10^(jb s v).2:=by rw[<-uA2];congr 1;omega
  rw[this,<-uAr,<-h1]
theorem zT(neg:Bool)(v s:Nat):(canon neg v s).2.2<=s:=by
 unfold canon;split
 ·exact uAC _
 ·exact (qk s v).2.1
theorem zop(neg:Bool)(v s:Nat):Digs (canon neg v s).2.1:=by
 unfold canon;split
 ·decide
 ·exact QD _
theorem ztw(neg:Bool)(v s:Nat):(canon neg v s).2.1≠[]:=by
 unfold canon;split
 ·simp
 ·rename_i h;rw[Ne,zfY];exact zkC h
theorem zf8(neg:Bool)(v s:Nat):val (canon neg v s).2.1=0↔v=0:=by
 have h:=zcy neg v s;have p1:=pow_pos s;have p2:=pow_pos (canon neg v s).2.2;constructor
 ·intro e;rw[e,uA8]at h;rcases Nat.mul_eq_zero.1 h.symm with h|h
  ·exact h
  ·omega
 ·intro e;subst e;rw[yI];rfl
theorem zf9(neg:Bool)(v s:Nat):(canon neg v s).1=(neg&&decide (v≠0)):=by
 unfold canon;split
 ·rename_i h;simp[h]
 ·rename_i h;simp[h]
theorem zpY{s v:Nat}(h:s=0\/v%10≠0):jb s v=(v,s):=by
 cases s with
 |zero=>rfl
 |succ s=>rw[jb,if_neg (by rcases h with h|h;cases h;exact h)]
theorem zmk(neg:Bool)(v s:Nat):canon (canon neg v s).1 (val (canon neg v s).2.1) (canon neg v s).2.2=canon neg v s:=by
 by_cases h0:v=0
 ·subst h0;rw[yI];rfl
 ·have e:canon neg v s=(neg,dstr (jb s v).1,(jb s v).2):=by unfold canon;rw[if_neg h0]
  obtain⟨_,_,h3⟩:=qk s v;rw[e];dsimp only;rw[JD];unfold canon;rw[if_neg (zkC h0),zpY h3]
end Go.Dg
end
section
set_option maxRecDepth 100000
namespace Go.Proofs.C06
open Go Go.RowKit Go.Vc Go.Am Go.Dg
theorem ji{a b:uBH}(h:a.length+b.length<=1000000):ja a b=true:=by rw[QJ];omega
theorem K9{p:UInt8->Bool}:∀{l:uBH}{c:UInt8}{r:uBH},l.dropWhile p=c::r->p c=false
 |[],_,_,h=>by cases h
 |x::l,c,r,h=>by
  rw[List.dropWhile_cons]at h;split at h
  ·exact K9 h
  ·rename_i hx;cases h;simpa using hx
theorem YW{p:UInt8->Bool}:∀{l:uBH},l.dropWhile p=[]↔∀c∈l,p c=true
 |[]=>by simp
 |x::l=>by
  rw[List.dropWhile_cons];split
  ·rename_i h;rw[YW];simp[h]
  ·rename_i h;simp[h]
theorem zbU(s cs:uBH):Lib.trimS s cs=[]↔∀c∈s,cs.contains c=true:=by
 unfold Lib.trimS Lib.trimLeftS Lib.trimRightS;rw[YW];constructor
 ·intro h;have h2:s.reverse.dropWhile (cs.contains ·)=[]:=by
   rcases hr:s.reverse.dropWhile (cs.contains ·)with _|⟨c,r⟩
   ·rfl
   ·have h1:=K9 hr;have:=h c (by rw[hr];simp);rw[this]at h1;cases h1
  rw[YW]at h2;exact fun c hc=>h2 c (by simpa using hc)
 ·intro h c hc;have hc:c∈s.reverse.dropWhile (cs.contains ·):=by simpa using hc
  have:=(uBz _).subset hc;exact h c (by simpa using this)
theorem Wh(c:UInt8):([48,49,50,51,52,53,54,55,56,57]:uBH).contains c=true↔48<=c.toNat/\c.toNat<=57:=by
 constructor
 ·intro h;simp only[uAt,List.contains_nil,uBl,uAf,beq_iff_eq]at h;rcases h with rfl|rfl|rfl|rfl|rfl|rfl|rfl|rfl|rfl|rfl<;>decide
 ·rintro⟨h1,h2⟩;have:∀m:Fin 256,48<=m.val->m.val<=57->([48,49,50,51,52,53,54,55,56,57]:uBH).contains (UInt8.ofNat m.val)=true:=by decide
  have h:=this ⟨c.toNat,UInt8.toNat_lt c⟩ h1 h2;simpa using h
theorem za9{s cs:uBH}(hs:s.length<=1000000)(hc:cs.length<=1000)(ha:Vm cs=true):ZT s cs=some (Lib.trimS s cs):=by unfold ZT;rw[decide_eq_true (show s.length<=9223372036854775807 by omega),decide_eq_true (show cs.length<4294967281 by omega),ha];rfl
theorem zf4{N:Nat}{s:uBH}(hs:s.length<=1000000):zbt N s=some (decide (s≠[]/\Digs s)):=by
 unfold zbt;rw[zh];by_cases h:s=[]
 ·rw[if_pos h];simp[h]
 ·rw[if_neg h,za9 hs (by decide) (by decide),zc];congr 1;rw[uAx];simp only[decide_eq_true_eq];rw[zbU];constructor
  ·intro k;exact⟨h,fun c hc=>(Wh c).1 (k c hc)⟩
  ·rintro⟨_,k⟩ c hc;exact (Wh c).2 (k c hc)
theorem znM{s:uBH}:Jw s [48]=some (tz s):=by unfold Jw;rw[ztS];rfl
theorem zrx{s:uBH}(hs:s.length<=1000000)(hd:Digs s):∃t,ZT s [48]=some t/\(t=[]↔val s=0):=by
 refine⟨_,za9 hs (by decide) (by decide),?_⟩;rw[zbU];constructor
 ·intro h;exact zri fun c hc=>by simpa using h c hc
 ·intro h c hc;rw[zeD hd h c hc];decide
theorem zbd{m:Nat}(hm:m<=100000):jA [48] (m:Int)=some (List.replicate m 48):=by
 have e:Lib.repeatL [48] m=List.replicate m 48:=by
  induction m with
  |zero=>rfl
  |succ m ih=>rw[Lib.repeatL,ih (by omega),uAa];rfl
 unfold jA;simp only[nK,nC,uBw];rw[decide_eq_true (show(0:Int)<=(m:Int)by omega),decide_eq_true (show(m:Int)<=9223372036854775807 by omega),decide_eq_true (by omega),e];rfl
theorem zlx(l:uBH)(c:UInt8)(hl:l.length<=1000000):Xi (l++[c]) [48]=some (decide (c=48)):=by
 unfold Xi;rw[decide_eq_true (by simp;omega),za];congr 1;unfold Lib.hasSuffix;rw[uAx,decide_eq_true_eq,List.isSuffixOf_iff_suffix];constructor
 ·rintro⟨t,ht⟩;have:=congrArg List.getLast? ht;simp at this;exact this.symm
 ·rintro rfl;exact⟨l,rfl⟩
def Yx(c:Bool×uBH×Nat):Decimal:=Decimal.mk c.1 c.2.1 (c.2.2:Int)
def zen:Decimal:=Decimal.mk false [] 0
def nrm(neg:Bool)(l:uBH)(sc:Int):Decimal×Int:=if 62<(canon neg (val l*10^(-sc).toNat) sc.toNat).2.1.length\/62<(canon neg (val l*10^(-sc).toNat) sc.toNat).2.2 then(zen,14)else(Yx (canon neg (val l*10^(-sc).toNat) sc.toNat),0)
theorem WK(N:Nat)(neg:Bool)(l:uBH)(s:Nat)(b:Decimal):J8 N neg l (s:Int) b=some (if 62<l.length\/62<s then(zen,14)else(Decimal.mk neg l (s:Int),0)):=by
 unfold J8 jD;rw[zb];by_cases h:62<l.length\/62<s
 ·rw[if_pos h,if_pos (by split<;>omega)];rfl
 ·rw[if_neg h,if_neg (by split<;>omega)]
theorem zof{v:Nat}(h:v≠0)(k:Nat):dstr v++List.replicate k 48=dstr (v*10^k):=by
 have e:val (dstr v++List.replicate k 48)=v*10^k:=by rw[yJ,JD]
 rw[<-e,zpv (Digs.append.2 ⟨QD v,Digs.zeros k⟩)];intro c r hc;rcases hd:dstr v with _|⟨x,t⟩
 ·exact absurd (zfY.1 hd) h
 ·rw[hd]at hc;cases hc;exact zdH (l:=dstr v) (by rw[ziw,hd])
theorem WL(N:Nat)(neg:Bool){l:uBH}{s:Int}(b:Decimal)(h1: -2000<=s)(hl:l.length<=2000):
  Zz N neg l s b=some (if 62<l.length+(-s).toNat\/62<s.toNat then(zen,14)else(Decimal.mk neg (l++List.replicate (-s).toNat 48) (s.toNat:Int),0)):=by
 unfold Zz;rw[zb];by_cases h:s<0
 ·obtain⟨m,hm⟩:∃m:Nat,-s=m:=⟨(-s).toNat,by omega⟩
  have e1:s.toNat=0:=by omega
  rw[if_pos h,hm,zk (by omega) (by omega),za,zbd (by omega),zc,ji (by simp;omega),za];have:=WK N neg (l++List.replicate m 48) 0 b;rw[e1,nK];rw[nH,nE]at this;exact this
 ·obtain⟨m,hm⟩:∃m:Nat,s=m:=⟨s.toNat,by omega⟩
  rw[if_neg h];have e2:(-s).toNat=0:=by omega
  rw[e2,List.replicate_zero,nV,uAE,hm,WK,nK]
theorem zbu(N:Nat)(neg:Bool)(b:Decimal):∀(m n:Nat)(l:uBH)(s:Int),s.toNat=m->m<n->Digs l->(∃c r,l=c::r/\c≠48)->l.length<=2000->s<=2000->
  J7 N n neg l s b=Zz N neg (dstr (jb s.toNat (val l)).1) (if s<0 then s else((jb s.toNat (val l)).2:Int)) b
 |m,0,l,s,hm,hn,_,_,_,_=>by omega
 |m,n+1,l,s,hm,hn,hd,⟨c,r,hcr,hc⟩,hl,hs=>by
  have hself:dstr (val l)=l:=zpv hd fun c' r' h=>by rw[hcr]at h;cases h;exact hc
  show XD N (J7 N n) neg l s b=_;unfold XD;rw[zb];by_cases h:0<s
  ·obtain⟨q,rfl⟩:∃q:Nat,s=(q+1:Nat):=⟨(s-1).toNat,by omega⟩
   rcases List.eq_nil_or_concat l with h0|⟨t,x,h0⟩
   ·rw[h0]at hcr;cases hcr
   ·rw[List.concat_eq_append]at h0;subst h0;rw[nH]at hl;simp only[nC,uBw]at hl;rw[Digs.append,Digs.cons]at hd;have hv:=zeE t x;have hx:=hd.2.1;rw[if_pos h,zlx t x (by omega),zc,zb,nK];by_cases hx0:x=48
    ·have ht:∃c r,t=c::r/\c≠48:=by
      cases t with
      |nil=>cases hcr;exact absurd hx0 hc
      |cons c' r'=>cases hcr;exact⟨_,_,rfl,hc⟩
     have e1:(((t++[x]).length:Int)-1)=(t.length:Int):=by simp
     have e2:(((q+1:Nat):Int)-1)=(q:Int):=by omega
     have hin:zm 0 (t.length:Int) (t++[x]).length=true:=by unfold zm;simp;omega
     have e3:jC (t++[x]) (t.length:Int)=t:=by unfold jC;simp
     have e4:jb (q+1) (val (t++[x]))=jb q (val t):=by subst hx0;rw[hv,jb,if_pos (by simp)];congr 1;simp
     rw[if_pos hx0,e1,e2,zk (by omega) (by omega),za,hin,za,zk (by omega) (by omega),za,e3,
      zbu N neg b q n t (q:Int) (by simp) (by simp at hm;omega) hd.1 ht (by omega) (by omega),e4,nK,if_neg (by omega),if_neg (by omega)]
    ·have hx1:x.toNat≠48:=fun e=>hx0 (UInt8.toNat_inj.1 e)
     have e4:jb (q+1) (val (t++[x]))=(val (t++[x]),q+1):=by rw[jb,if_neg (by rw[hv];omega)]
     rw[if_neg hx0,e4,hself,if_neg (by omega)]
  ·rw[if_neg h];have e1:s.toNat=0:=by omega
   rw[e1];simp only[jb,hself];by_cases h2:s<0
   ·rw[if_pos h2]
   ·rw[if_neg h2,show s=((0:Nat):Int)by omega]
theorem zak{N:Nat}(hN:3000<N)(neg:Bool){l:uBH}(hd:Digs l)(hl:l.length<=2000){s:Int}(h1: -2000<=s)(h2:s<=2000):Wj N neg l s=some (nrm neg l s):=by
 unfold Wj;rw[znM,zc,zb];by_cases h0:val l=0
 ·rw[if_pos ((zbR hd).2 h0)];unfold nrm;rw[h0,uA8,yI];rfl
 ·have hne:tz l≠[]:=fun e=>h0 ((zbR hd).1 e)
  rw[if_neg hne];obtain⟨c,r,hcr⟩:∃c r,tz l=c::r:=by
   rcases htz:tz l with _|⟨c,r⟩
   ·exact absurd htz hne
   ·exact⟨c,r,rfl⟩
  have hlen:=zwd l;rw[zbu N neg _ s.toNat N (tz l) s rfl (by omega) hd.tz ⟨c,r,hcr,zdH hcr⟩ (by omega) h2,Km];have hsl:(dstr (jb s.toNat (val l)).1).length<=2000:=by
   have hlt:=ym hd;have hle:(jb s.toNat (val l)).1<=val l:=by have:=(qk s.toNat (val l)).1;have hp:=pow_pos (s.toNat-(jb s.toNat (val l)).2);rw[this];exact nY (Nat.le_of_eq (nM _).symm) (by rw[<-this];exact nY (Nat.mul_le_mul_left _ hp) (Nat.le_of_eq this.symm))
   have:=zl2 (v:=(jb s.toNat (val l)).1) (n:=l.length) (by omega);omega
  by_cases hs:s<0
  ·rw[if_pos hs,WL N neg _ h1 hsl];have e1:s.toNat=0:=by omega
   unfold nrm;rw[e1];have e2:jb 0 (val l)=(val l,0):=rfl;have hv:val l*10^(-s).toNat≠0:=fun e=>by
    rcases Nat.mul_eq_zero.1 e with e|e
    ·exact h0 e
    ·have:=pow_pos (-s).toNat;omega
   have e3:canon neg (val l*10^(-s).toNat) 0=(neg,dstr (val l)++List.replicate (-s).toNat 48,0):=by unfold canon;rw[if_neg hv,zof h0];rfl
   rw[e2,e3];dsimp only;rw[nH,nE];rfl
  ·rw[if_neg hs,WL N neg _ (by omega) hsl];unfold nrm;have e1:(-s).toNat=0:=by omega
   have e3:canon neg (val l*10^(-s).toNat) s.toNat=(neg,dstr (jb s.toNat (val l)).1,(jb s.toNat (val l)).2):=by rw[e1,uAi,nM];unfold canon;rw[if_neg h0]
   have e4:(-(((jb s.toNat (val l)).2:Nat):Int)).toNat=0:=by omega
   rw[e3,e4,nK,uAE,List.replicate_zero,nV];rfl
def VD(d:Decimal):Prop:=d.uA≠[]/\Digs d.uA/\d.uA.length<=62/\0<=d.uD/\d.uD<=62/\nrm d.uR d.uA d.uD=(d,0)
instance(d:Decimal):Decidable (VD d):=by unfold VD;infer_instance
theorem zbv{N:Nat}(hN:3000<N)(neg:Bool){l:uBH}(hd:Digs l)(h0:l≠[])(hl:l.length<=1000){s:Int}(h1: -1000<=s)(h2:s<=1000):zct N neg l s=some (nrm neg l s):=by unfold zct;rw[zf4 (by omega),zc,zh,if_pos ⟨h0,hd⟩,zb,if_neg (by omega),zb,if_neg (by omega),zb,if_neg (by omega),zak hN neg hd (by omega) (by omega) (by omega),zc]
theorem zcu{N:Nat}(hN:3000<N){d:Decimal}(hl:d.uA.length<=1000):zcv N d=some (if VD d then 0 else 1):=by
 unfold zcv;rw[zf4 (by omega),zc,zh];by_cases h1:d.uA≠[]/\Digs d.uA
 ·rw[if_pos h1,zb];by_cases h2:62<(d.uA.length:Int)
  ·rw[if_pos h2,if_neg (fun h=>by have:=h.2.2.1;omega)]
  ·rw[if_neg h2,zb];by_cases h3:d.uD<0
   ·rw[if_pos h3,if_neg (fun h=>by have:=h.2.2.2.1;omega)]
   ·rw[if_neg h3,zb];by_cases h4:62<d.uD
    ·rw[if_pos h4,if_neg (fun h=>by have:=h.2.2.2.2.1;omega)]
    ·rw[if_neg h4,zak hN _ h1.2 (by omega) (by omega) (by omega),zc,zh];by_cases h5:(nrm d.uR d.uA d.uD).2=0
     ·rw[if_pos h5];have e:(decide ((nrm d.uR d.uA d.uD).1.uR=d.uR)&&(decide ((nrm d.uR d.uA d.uD).1.uA=d.uA)&&(decide ((nrm d.uR d.uA d.uD).1.uD=d.uD)&&true)))=decide ((nrm d.uR d.uA d.uD).1=d):=by rw[uAx];obtain⟨a,b,c⟩:=d;generalize (nrm a b c).1=y;obtain⟨p,q,r⟩:=y;simp
      rw[e,zh];by_cases h6:(nrm d.uR d.uA d.uD).1=d
      ·rw[if_pos h6,if_pos ⟨h1.1,h1.2,by omega,by omega,by omega,Prod.ext h6 h5⟩]
      ·rw[if_neg h6,if_neg (fun h=>h6 (by rw[h.2.2.2.2.2]))]
     ·rw[if_neg h5,if_neg (fun h=>h5 (by rw[h.2.2.2.2.2]))]
 ·rw[if_neg h1,if_neg (fun h=>h1 ⟨h.1,h.2.1⟩)]
theorem VD.form{d:Decimal}(h:VD d):Yx (canon d.uR (val d.uA) d.uD.toNat)=d:=by
 obtain⟨_,_,_,h4,_,h6⟩:=h;unfold nrm at h6;have e:(-d.uD).toNat=0:=by omega
 rw[e,uAi,nM]at h6;split at h6
 ·cases h6
 ·exact congrArg Prod.fst h6
theorem VD.of{neg:Bool}{v s:Nat}(h1:(canon neg v s).2.1.length<=62)(h2:(canon neg v s).2.2<=62):VD (Yx (canon neg v s)):=by
 refine⟨ztw _ _ _,zop _ _ _,h1,?_,?_,?_⟩
 ·show(0:Int)<=((canon neg v s).2.2:Int);omega
 ·show((canon neg v s).2.2:Int)<=62;omega
 ·unfold nrm;have e1:(-(Yx (canon neg v s)).uD).toNat=0:=by show(-((canon neg v s).2.2:Int)).toNat=0;omega
  have e2:(Yx (canon neg v s)).uD.toNat=(canon neg v s).2.2:=by show(((canon neg v s).2.2:Nat):Int).toNat=_;omega
  have e3:canon (Yx (canon neg v s)).uR (val (Yx (canon neg v s)).uA) (canon neg v s).2.2=canon neg v s:=zmk neg v s;rw[e1,e2,uAi,nM,e3,if_neg (by omega)]
theorem W4{neg:Bool}{l:uBH}{s:Int}(h1:(canon neg (val l*10^(-s).toNat) s.toNat).2.1.length<=62)(h2:(canon neg (val l*10^(-s).toNat) s.toNat).2.2<=62):
  nrm neg l s=(Yx (canon neg (val l*10^(-s).toNat) s.toNat),0):=by
 unfold nrm;rw[if_neg (by omega)]
theorem yk{neg:Bool}{v s n:Nat}(hn:1<=n)(h:v<10^n):(canon neg v s).2.1.length<=n:=by
 unfold canon;split
 ·simpa using hn
 ·dsimp only;refine zl2 ?_;have:=(qk s v).1;have hp:=pow_pos (s-(jb s v).2);have hle:(jb s v).1<=v:=by rw[this];exact nY (Nat.le_of_eq (nM _).symm) (by rw[<-this];exact nY (Nat.mul_le_mul_left _ hp) (Nat.le_of_eq this.symm))
  omega
end Go.Proofs.C06
end
section
set_option maxRecDepth 100000
namespace Go.Proofs.C06
open Go Go.RowKit Go.Vc Go.Am Go.Dg
theorem zu6{v len k:Nat}(h:v<10^len):v%10^(min len k)=v%10^k:=by
 rcases Nat.le_total k len with hk|hk
 ·rw[Nat.min_eq_right hk]
 ·rw[uBf hk,Nat.mod_eq_of_lt h,Nat.mod_eq_of_lt (uA1 h (uAp (by decide) hk))]
theorem zhc(l:uBH){m:Nat}(h:m<=l.length):jC l ((l.length:Int)-(m:Int))=l.take (l.length-m):=by unfold jC;congr 1;omega
theorem Wf(l:uBH){m:Nat}(h:m<=l.length):zZ l ((l.length:Int)-(m:Int))=l.drop (l.length-m):=by unfold zZ;congr 1;omega
theorem zoj{N:Nat}(hN:3000<N){d b:Decimal}(hd:VD d){m:Nat}(hm:m<=d.uA.length):
  zbw N (m:Int) d b=some ((nrm d.uR (d.uA.take (d.uA.length-m)++List.replicate m 48) d.uD).1,decide (val d.uA%10^m=0),(nrm d.uR (d.uA.take (d.uA.length-m)++List.replicate m 48) d.uD).2):=by
 obtain⟨h1,h2,h3,h4,h5,_⟩:=hd;unfold zbw;have hin1:zm ((d.uA.length:Int)-(m:Int)) (d.uA.length:Int) d.uA.length=true:=by unfold zm;simp<;>omega
 have hin2:zm 0 ((d.uA.length:Int)-(m:Int)) d.uA.length=true:=by unfold zm;simp<;>omega
 obtain⟨t,e1,e2⟩:=zrx (s:=d.uA.drop (d.uA.length-m)) (by rw[nD];omega) (h2.drop _);rw[zk (by omega) (by omega),za,hin1,za,za,hin2,za,zbd (by omega),zc,zhc _ hm,Wf _ hm,
  ji (by rw[nA,nE];omega),za,
  zak hN _ (Digs.append.2 ⟨h2.take _,Digs.zeros _⟩) (by rw[nH,nA,nE];omega) (by omega) (by omega),zc,e1,zc]
 have e3:(t=[])↔val d.uA%10^m=0:=by rw[e2,(jB h2 hm).2]
 rw[decide_eq_decide.2 e3]
theorem zjI{N:Nat}(hN:3000<N){d:Decimal}(hd:VD d){s:Int}(hs: -1000<=s)(hs2:s<=1000):
  ∃x e,zl9 N d s=some (x,decide (val d.uA%10^(d.uD-s).toNat=0),e)/\
   (d.uD<=s->x=d/\e=0)/\(s<d.uD->∃m,m=min d.uA.length (d.uD-s).toNat/\(x,e)=nrm d.uR (d.uA.take (d.uA.length-m)++List.replicate m 48) d.uD):=by
 have hd':=hd;obtain⟨h1,h2,h3,h4,h5,_⟩:=hd';unfold zl9;rw[zcu hN (by omega),if_pos hd,zc,zh,if_pos rfl,zb];by_cases h:d.uD<=s
 ·rw[if_pos h];refine⟨d,0,?_,fun _=>⟨rfl,rfl⟩,fun h'=>by omega⟩;have e:(d.uD-s).toNat=0:=by omega
  rw[e,uAi,Nat.mod_one,decide_eq_true rfl]
 ·rw[if_neg h,zb,if_pos (by omega),zk (by omega) (by omega),za];have em:Wq (d.uA.length:Int) (d.uD-s)=((min d.uA.length (d.uD-s).toNat:Nat):Int):=by unfold Wq;split<;>omega
  rw[em,zoj hN hd (by omega),zu6 (ym h2)];exact⟨_,_,rfl,fun h'=>absurd h' h,fun _=>⟨_,rfl,rfl⟩⟩
def quo(v S:Nat)(s:Int):Nat:=v*10^(s-(S:Int)).toNat/10^((S:Int)-s).toNat
def exact(v S:Nat)(s:Int):Prop:=v%10^((S:Int)-s).toNat=0
instance(v S:Nat)(s:Int):Decidable (exact v S s):=by unfold exact;infer_instance
theorem zaY{N:Nat}{n:Nat}{s:uBH}(hn:n<=1000)(hs:s.length<=1000):Qb N (n:Int) s=some (List.replicate (n-s.length) 48++s,true):=by
 unfold Qb;have e:jD ((n:Int)-(s.length:Int)) 0=((n-s.length:Nat):Int):=by unfold jD;split<;>omega
 rw[zk (by omega) (by omega),za,e,zbd (by omega),zc,ji (by rw[nE];omega),za]
theorem VK{N:Nat}(hN:3000<N){d:Decimal}(hd:VD d){n:Nat}{s:Int}(hn:n<=1000)(hs: -62<=s)(hs2:s<=62):
  (exact (val d.uA) d.uD.toNat s->∃t,places N d (n:Int) s=some (t,true)/\Digs t/\val t=quo (val d.uA) d.uD.toNat s/\n<=t.length/\t.length<=2000)/\
  (¬exact (val d.uA) d.uD.toNat s->places N d (n:Int) s=some ([],false)):=by
 obtain⟨x,e,hc,_⟩:=zjI hN hd (s:=s) (by omega) (by omega);obtain⟨h1,h2,h3,h4,h5,_⟩:=hd;have hS:((d.uD.toNat:Nat):Int)=d.uD:=by omega
 have hex:(val d.uA%10^(d.uD-s).toNat=0)↔exact (val d.uA) d.uD.toNat s:=by unfold exact;rw[hS]
 unfold places;rw[hc,zc,zh];constructor
 ·intro he;rw[if_pos (hex.2 he),zk (by omega) (by omega),za,zb];by_cases h:0<=s-d.uD
  ·obtain⟨k,hk⟩:∃k:Nat,s-d.uD=k:=⟨(s-d.uD).toNat,by omega⟩
   have e1:(d.uD-s).toNat=0:=by omega
   refine⟨List.replicate (n-(d.uA++List.replicate k 48).length) 48++(d.uA++List.replicate k 48),?_,?_,?_,?_,?_⟩
   ·rw[if_pos h,hk,zbd (by omega),zc,ji (by rw[nE];omega),za,zaY hn (by rw[nH,nE];omega)]
   ·exact Digs.append.2 ⟨Digs.zeros _,Digs.append.2 ⟨h2,Digs.zeros _⟩⟩
   ·rw[Y3,yJ];unfold quo;rw[hS,hk,e1,nK,uAi,Nat.div_one]
   ·simp only[nH,nE];omega
   ·simp only[nH,nE];omega
  ·obtain⟨k,hk⟩:∃k:Nat,d.uD-s=k:=⟨(d.uD-s).toNat,by omega⟩
   have em:jD ((d.uA.length:Int)+(s-d.uD)) 0=((d.uA.length-k:Nat):Int):=by unfold jD;split<;>omega
   have et:jC d.uA ((d.uA.length-k:Nat):Int)=d.uA.take (d.uA.length-k):=rfl;have hin:zm 0 ((d.uA.length-k:Nat):Int) d.uA.length=true:=by unfold zm;simp<;>omega
   have e1:(s-d.uD).toNat=0:=by omega
   refine⟨List.replicate (n-(d.uA.take (d.uA.length-k)).length) 48++d.uA.take (d.uA.length-k),?_,?_,?_,?_,?_⟩
   ·rw[if_neg h,zk (by omega) (by omega),za,em,hin,za,et,zaY hn (by rw[nA];omega)]
   ·exact Digs.append.2 ⟨Digs.zeros _,h2.take _⟩
   ·rw[Y3];unfold quo;rw[hS,e1,hk,nK,uAi,nM];rcases Nat.le_total k d.uA.length with hkl|hkl
    ·exact (jB h2 hkl).1
    ·have:d.uA.length-k=0:=by omega
     rw[this,uBn,zoN,uBr (uA1 (ym h2) (uAp (by decide) hkl))]
   ·simp only[nH,nE,nA];omega
   ·simp only[nH,nE,nA];omega
 ·intro he;rw[if_neg (fun h=>he (hex.1 h))]
theorem zb5{N:Nat}(hN:3000<N){d:Decimal}(hl:d.uA.length<=1000){n:Nat}{s:Int}(hn0:1<=n)(hn:n<=62)(hs: -62<=s)(hs2:s<=62):ze0 N d (n:Int) s=some (if VD d then 0 else 1):=by
 unfold ze0;rw[zcu hN hl,zc,zh];by_cases h:VD d
 ·rw[if_pos h,if_pos rfl,zb,if_neg (by omega),zb,if_neg (by omega),zb,if_neg (by omega),zb,if_neg (by omega)]
 ·rw[if_neg h,if_neg (by decide)]
def Jb(d:Decimal)(n:Nat)(s:Int):Prop:=exact (val d.uA) d.uD.toNat s/\quo (val d.uA) d.uD.toNat s<10^n
instance(d:Decimal)(n:Nat)(s:Int):Decidable (Jb d n s):=by unfold Jb;infer_instance
theorem zrZ{N:Nat}(hN:3000<N){d:Decimal}(hd:VD d){n:Nat}{s:Int}(hn0:1<=n)(hn:n<=62)(hs: -62<=s)(hs2:s<=62):zo5 N d (n:Int) s=some (decide (Jb d n s),0):=by
 have hlen:d.uA.length<=1000:=by have:=hd.2.2.1;omega
 obtain⟨p1,p2⟩:=VK hN hd (n:=n) (s:=s) (by omega) hs hs2;unfold zo5;rw[zb5 hN hlen hn0 hn hs hs2,if_pos hd,zc,zh,if_pos rfl];by_cases he:exact (val d.uA) d.uD.toNat s
 ·obtain⟨t,e1,e2,e3,e4,e5⟩:=p1 he;have hin:zm 0 ((t.length:Int)-(n:Int)) t.length=true:=by unfold zm;simp<;>omega
  obtain⟨q,g1,g2⟩:=zrx (s:=t.take (t.length-n)) (by rw[nA];omega) (e2.take _);rw[e1,zc];dsimp only;rw[cond_true,zk (by omega) (by omega),za,hin,za,zhc _ e4,g1,zc];congr 2;rw[decide_eq_decide,g2,(jB e2 e4).1,e3];unfold Jb;have hp:=pow_pos n;constructor
  ·intro h;exact⟨he,by rcases Nat.div_eq_zero_iff.1 h with h|h;omega;exact h⟩
  ·intro h;exact uBr h.2
 ·rw[p2 he,zc];dsimp only;rw[cond_false,decide_eq_false (fun h=>he h.1)]
theorem WX{N:Nat}(hN:3000<N){d:Decimal}(hd:VD d){n:Nat}{s:Int}(hn0:1<=n)(hn:n<=62)(hs: -62<=s)(hs2:s<=62):
  Ym N d (n:Int) s=some (if Jb d n s then(fmt n (quo (val d.uA) d.uD.toNat s),0)else([],14)):=by
 obtain⟨p1,_⟩:=VK hN hd (n:=n) (s:=s) (by omega) hs hs2;unfold Ym;rw[zrZ hN hd hn0 hn hs hs2,zc,zh,if_pos rfl,zh];by_cases h:Jb d n s
 ·obtain⟨t,e1,e2,e3,e4,e5⟩:=p1 h.1;have hin:zm ((t.length:Int)-(n:Int)) (t.length:Int) t.length=true:=by unfold zm;simp<;>omega
  rw[if_pos h,if_pos h,e1,zc];dsimp only;rw[zk (by omega) (by omega),za,hin,za,Wf _ e4];congr 2;refine zw6 (e2.drop _) (by rw[nD];omega) ?_;rw[(jB e2 e4).2,e3,Nat.mod_eq_of_lt h.2]
 ·rw[if_neg h,if_neg h]
theorem Qp{v S n:Nat}{s:Int}(hS:S<=62)(hs: -62<=s)(hs2:s<=62):(exact v S s/\quo v S s<10^n)↔∃q,q<10^n/\v*10^(62+s).toNat=q*10^(62+S):=by
 unfold exact quo;have hp:0<10^((S:Int)-s).toNat:=pow_pos _;have key:∀q,(v*10^(s-(S:Int)).toNat=q*10^((S:Int)-s).toNat)↔v*10^(62+s).toNat=q*10^(62+S):=by
  intro q;rcases Int.le_total s S with h|h
  ·have e1:(s-(S:Int)).toNat=0:=by omega
   have e2:62+S=((S:Int)-s).toNat+(62+s).toNat:=by omega
   rw[e1,e2,uAi,nM,uA2,<-uAr];constructor
   ·intro h;rw[h]
   ·intro h;exact uAY (pow_pos _) h
  ·have e1:((S:Int)-s).toNat=0:=by omega
   have e2:(62+s).toNat=(s-(S:Int)).toNat+(62+S):=by omega
   rw[e1,e2,uAi,nM,uA2,<-uAr];constructor
   ·intro h;rw[h]
   ·intro h;exact uAY (pow_pos _) h
 constructor
 ·rintro⟨h1,h2⟩;refine⟨_,h2,(key _).1 ?_⟩;rw[Nat.div_mul_cancel];exact Nat.dvd_trans (Nat.dvd_of_mod_eq_zero h1) (Nat.dvd_mul_right _ _)
 ·rintro⟨q,h1,h2⟩;have h3:=(key q).2 h2;refine⟨?_,by rw[h3,Nat.mul_div_cancel _ hp];exact h1⟩;rcases Int.le_total s S with h|h
  ·have e1:(s-(S:Int)).toNat=0:=by omega
   rw[e1,uAi,nM]at h3;rw[h3];exact Nat.mul_mod_left _ _
  ·have e1:((S:Int)-s).toNat=0:=by omega
   rw[e1,uAi,Nat.mod_one]
theorem ziN{v S q:Nat}{s:Int}(hS:S<=62)(hs: -62<=s)(hs2:s<=62)(h:v*10^(62+s).toNat=q*10^(62+S)):quo v S s=q:=by
 obtain⟨h1,h2⟩:=(Qp (v:=v) (n:=q+1) hS hs hs2).2 ⟨q,uA1 (KI q) (uAp (by decide) (by omega)),h⟩;obtain⟨q',h3,h4⟩:=(Qp (v:=v) (n:=q+1) hS hs hs2).1 ⟨h1,h2⟩;have hq:q'=q:=uAY (pow_pos _) (h4.symm.trans h);unfold quo;rcases Int.le_total s S with h'|h'
 ·have e1:(s-(S:Int)).toNat=0:=by omega
  have e2:62+S=((S:Int)-s).toNat+(62+s).toNat:=by omega
  rw[e2,uA2,<-uAr]at h;have:=uAY (pow_pos _) h;rw[e1,uAi,nM,this,Nat.mul_div_cancel _ (pow_pos _)]
 ·have e1:((S:Int)-s).toNat=0:=by omega
  have e2:(62+s).toNat=(s-(S:Int)).toNat+(62+S):=by omega
  rw[e2,uA2,<-uAr]at h;have:=uAY (pow_pos _) h;rw[e1,uAi,Nat.div_one,this]
end Go.Proofs.C06
end
section
namespace Go.Dg
open Go
theorem zkb(k:IntKind)(n:Int):k.wrap n=k.wrap (n% (2^k.bits:Int)):=by unfold IntKind.wrap;simp only[Int.emod_emod_of_dvd _ (Int.dvd_refl _)]
theorem zmL{k:IntKind}{m n:Int}(h:m% (2^k.bits:Int)=n% (2^k.bits:Int)):k.wrap m=k.wrap n:=by rw[zkb,h,<-zkb]
theorem zig{n:Int}(h0:0<=n)(h1:n<256):IntKind.wrap .u8 n=n:=by have e:(2^IntKind.bits .u8:Int)=256:=rfl;unfold IntKind.wrap;rw[e];simp only[show IntKind.signed .u8=false from rfl,Bool.false_and,nW,if_false];omega
theorem wrap_u64(n:Int):IntKind.wrap .u64 n=n%18446744073709551616:=by have e:(2^IntKind.bits .u64:Int)=18446744073709551616:=rfl;unfold IntKind.wrap;rw[e];simp only[show IntKind.signed .u64=false from rfl,Bool.false_and,nW,if_false]
theorem zka(n:Int):IntKind.wrap .u8 n=n%256:=by have e:(2^IntKind.bits .u8:Int)=256:=rfl;unfold IntKind.wrap;rw[e];simp only[show IntKind.signed .u8=false from rfl,Bool.false_and,nW,if_false]
theorem wrap_i64(n:Int):IntKind.wrap .i64 n=if 9223372036854775808<=n%18446744073709551616 then n%18446744073709551616-18446744073709551616 else n%18446744073709551616:=by have e:(2^IntKind.bits .i64:Int)=18446744073709551616:=rfl;have e2:(2^(IntKind.bits .i64-1):Int)=9223372036854775808:=rfl;unfold IntKind.wrap;rw[e,e2];simp only[show IntKind.signed .i64=true from rfl,uBm,decide_eq_true_eq,ge_iff_le]
theorem ZP(w:Nat)(x:Int):((BitVec.ofInt w x).toNat:Int)=x% (2^w:Int):=by
 rw[BitVec.toNat_ofInt,Int.toNat_of_nonneg]
 ·norm_cast
 ·exact Int.emod_nonneg _ (by have:=Nat.two_pow_pos w;omega)
theorem XL{k:IntKind}{x:Int}{m:Nat}(hm:m<=k.bits):bits .and k x ((2^m-1:Nat):Int)=k.wrap (x% ((2^m:Nat):Int)):=by
 have h2:(BitVec.ofInt k.bits ((2^m-1:Nat):Int)).toNat=2^m-1:=by
  have h:=ZP k.bits ((2^m-1:Nat):Int);have hle:(2:Nat)^m<=2^k.bits:=uAp (by decide) hm;have hp:=Nat.two_pow_pos m;have hc:(2^k.bits:Int)=((2^k.bits:Nat):Int):=by norm_cast
  rw[hc,Int.emod_eq_of_lt (by omega) (by omega)]at h;omega
 unfold bits;simp only[BitVec.toNat_and,h2,Nat.and_two_pow_sub_one_eq_mod];congr 1;rw[Int.natCast_emod,ZP];refine Int.emod_emod_of_dvd _ ?_;have:=Nat.pow_dvd_pow 2 hm;have hc:(2^k.bits:Int)=((2^k.bits:Nat):Int):=by norm_cast
 rw[hc];exact Int.natCast_dvd_natCast.2 this
theorem zdc{k:IntKind}{a x:Int}{m:Nat}(hm:m<=k.bits)(ha:a% ((2^m:Nat):Int)=0)(h0:0<=x)(hx:x<((2^m:Nat):Int)):bits .or k a x=k.wrap (a+x):=by
 have hc:(2^k.bits:Int)=((2^k.bits:Nat):Int):=by norm_cast
 have hle:(2:Nat)^m<=2^k.bits:=uAp (by decide) hm;obtain⟨A,hA⟩:∃A:Nat,(BitVec.ofInt k.bits a).toNat=A*2^m:=by
  have h:=ZP k.bits a;have hd:((2^m:Nat):Int)∣((BitVec.ofInt k.bits a).toNat:Int):=by apply Int.dvd_of_emod_eq_zero;rw[h,hc,Int.emod_emod_of_dvd _ (Int.natCast_dvd_natCast.2 (Nat.pow_dvd_pow 2 hm))];exact ha
  obtain⟨q,hq⟩:=Int.natCast_dvd_natCast.1 hd;exact⟨q,by rw[hq,Nat.mul_comm]⟩
 obtain⟨y,rfl⟩:∃y:Nat,x=y:=⟨x.toNat,by omega⟩
 have hy:y<2^m:=by omega
 have hX:(BitVec.ofInt k.bits (y:Int)).toNat=y:=by have h:=ZP k.bits (y:Int);rw[hc,Int.emod_eq_of_lt (by omega) (by omega)]at h;omega
 unfold bits;simp only[BitVec.toNat_or,hX];have hor:(BitVec.ofInt k.bits a).toNat|||y=(BitVec.ofInt k.bits a).toNat+y:=by rw[hA,<-Nat.shiftLeft_eq,Nat.shiftLeft_add_eq_or_of_lt hy]
 rw[hor];apply zmL;rw[Int.natCast_add,ZP,Int.emod_add_emod]
theorem zv6{x:Int}:bits .and .u8 x 15=x%16:=by have:=XL (k:=.u8) (x:=x) (m:=4) (by decide);rw[show((2^4-1:Nat):Int)=15 from rfl,show((2^4:Nat):Int)=16 from rfl,zig (by omega) (by omega)]at this;exact this
theorem zxJ{a x:Int}(ha:a%16=0)(h0:0<=x)(hx:x<16):bits .or .u8 a x=(a+x)%256:=by have:=zdc (k:=.u8) (a:=a) (x:=x) (m:=4) (by decide) (by simpa using ha) h0 (by simpa using hx);rw[this,zka]
theorem zwL{a x:Int}(ha:a%256=0)(h0:0<=x)(hx:x<256):bits .or .u64 a x=(a+x)%18446744073709551616:=by have:=zdc (k:=.u64) (a:=a) (x:=x) (m:=8) (by decide) (by simpa using ha) h0 (by simpa using hx);rw[this,wrap_u64]
end Go.Dg
end
section
set_option maxRecDepth 100000
namespace Go.Proofs.C06
open Go Go.RowKit Go.Vc Go.Am Go.Dg
theorem yf{i n:Nat}(h:i<n):zn (i:Int) n=true:=zq.2 ⟨by omega,by omega⟩
theorem jN(s:uBH)(i:Nat):byteAt s (i:Int)=((s.getD i 0).toNat:Int):=rfl
theorem KV{n:Int}(h0:0<=n)(h:n<=255):ze .u8 n=true:=yh.2 ⟨h0,h⟩
theorem zcO(c:UInt8):c.toNat<256:=UInt8.toNat_lt c
theorem zry(c:UInt8):((c.toNat:Int).toNat.toUInt8)=c:=by simp
theorem zbV{c:Nat}:toByte (c:Int)=UInt8.ofNat c:=rfl
theorem ziB(c:UInt8):toByte ((c.toNat:Nat):Int)=c:=by unfold toByte;rw[nK];exact UInt8.ofNat_toNat
theorem zlK{l:uBH}{i:Nat}(h:i<l.length):l.getD i 0∈l:=by rw[mZ,mW h];exact uA5 h
theorem QF{l:uBH}(hd:Digs l){i:Nat}(h:i<l.length):48<=(l.getD i 0).toNat/\(l.getD i 0).toNat<=57:=hd _ (zlK h)
theorem zp2{l:uBH}{i:Nat}(h:i<l.length)(x:UInt8):l.take i++[x]++l.drop (i+1)=l.set i x:=by rw[List.set_eq_take_append_cons_drop,if_pos h,nI];rfl
def zk0:uBH:=[123,65,66,67,68,69,70,71,72,73]
def zcc:uBH:=[125,74,75,76,77,78,79,80,81,82]
def znr:uBH:=[48,49,50,51,52,53,54,55,56,57]
def ixC(c:UInt8):Int:=jD (Lib.indexByte zk0 c) (Lib.indexByte zcc c)
def ztd(c:UInt8):Option (Bool×UInt8):=if 0<=ixC c then some (decide (0<=Lib.indexByte zcc c),znr.getD (ixC c).toNat 0)else none
def letC(ng:Bool)(c:UInt8):UInt8:=(if ng then zcc else zk0).getD (c.toNat-48) 0
theorem zwW(c:UInt8):ixC c<10:=by
 have:∀m:Fin 256,ixC (UInt8.ofNat m.val)<10:=by decide
 have h:=this ⟨c.toNat,zcO c⟩;simpa using h
theorem zqW(ng:Bool){c:UInt8}(h:48<=c.toNat/\c.toNat<=57):ztd (letC ng c)=some (ng,c):=by
 have:∀m:Fin 256,48<=m.val->m.val<=57->ztd (letC true (UInt8.ofNat m.val))=some (true,UInt8.ofNat m.val)/\ztd (letC false (UInt8.ofNat m.val))=some (false,UInt8.ofNat m.val):=by decide
 have h2:=this ⟨c.toNat,zcO c⟩ h.1 h.2;simp only[UInt8.ofNat_toNat]at h2;cases ng
 ·exact h2.2
 ·exact h2.1
def sgnAt(ld:Bool)(n:Nat):Nat:=if ld then 0 else n-1
theorem zlP{N:Nat}{f:form}{n:Nat}(hn:f.uA=(n:Int))(h1:1<=n)(h2:n<=100):zlQ N f=some ((sgnAt f.uO n:Nat):Int):=by
 unfold zlQ sgnAt;cases f.uO with
 |true=>rfl
 |false=>rw[cond_false,hn,zk (by omega) (by omega),za,if_neg (by simp)];congr 1;omega
theorem zeR{ld:Bool}{n:Nat}(h:1<=n):sgnAt ld n<n:=by unfold sgnAt;split<;>omega
def rZ(sg ld:Bool)(n:Nat)(b:uBH):digits×Bool:=
 if sg then match ztd (b.getD (sgnAt ld n) 0)with
  |some (ng,x)=>(digits.mk ng (b.set (sgnAt ld n) x),decide (Digs (b.set (sgnAt ld n) x)))
  |none=>(digits.mk false b,decide (Digs b))
 else(digits.mk false b,decide (Digs b))
theorem zvV{s:uBH}(hs:s.length<=1000000):∃t,ZT s [48,49,50,51,52,53,54,55,56,57]=some t/\(t=[]↔Digs s):=by refine⟨_,za9 hs (by decide) (by decide),?_⟩;rw[zbU];exact⟨fun h c hc=>(Wh c).1 (h c hc),fun h c hc=>(Wh c).2 (h c hc)⟩
theorem Q0{N:Nat}(b0 b1:digits)(h:b1.s.length<=1000):Jp N b0 b1=some (b1,decide (Digs b1.s)):=by unfold Jp;obtain⟨t,h1,h2⟩:=zvV (s:=b1.s) (by omega);rw[h1,zc,decide_eq_decide.2 h2]
theorem zpQ{N:Nat}{f:form}{b:uBH}{n:Nat}(hn:f.uA=(n:Int))(h1:1<=n)(h2:n<=100)(hb:b.length=n):zeH N f b=some (rZ f.uM f.uO n b):=by
 unfold zeH rZ;rw[zlP hn h1 h2,zc];have hlt:=zeR (ld:=f.uO) h1;generalize sgnAt f.uO n=i at hlt;cases f.uM with
 |false=>rw[cond_false,Q0 _ _ (by show b.length<=1000;omega),if_neg (by simp)]
 |true=>
  rw[cond_true,if_pos rfl,yf (by omega),za,jN];unfold yd;rw[zry,zc,zc];have e:jD (Lib.indexByte [123,65,66,67,68,69,70,71,72,73] (b.getD i 0)) (Lib.indexByte [125,74,75,76,77,78,79,80,81,82] (b.getD i 0))=ixC (b.getD i 0):=rfl;rw[e,zb];have hk:=zwW (b.getD i 0);unfold ztd;by_cases h0:0<=ixC (b.getD i 0)
  ·obtain⟨k,hk0⟩:∃k:Nat,ixC (b.getD i 0)=k:=⟨(ixC (b.getD i 0)).toNat,by omega⟩
   have hsub:Vc.sub ([48,49,50,51,52,53,54,55,56,57]:uBH) (k:Int) ((k:Int)+1)=[znr.getD k 0]:=by
    have:∀m:Fin 10,Vc.sub ([48,49,50,51,52,53,54,55,56,57]:uBH) ((m.val:Nat):Int) (((m.val:Nat):Int)+1)=[znr.getD m.val 0]:=by decide
    exact this ⟨k,by omega⟩
   have hin1:zm 0 (i:Int) b.length=true:=by unfold zm;simp<;>omega
   have hin2:zm (k:Int) ((k:Int)+1) ([48,49,50,51,52,53,54,55,56,57]:uBH).length=true:=by unfold zm;simp<;>omega
   have hin3:zm ((i:Int)+1) (b.length:Int) b.length=true:=by unfold zm;simp<;>omega
   have ht:jC b (i:Int)=b.take i:=rfl;have hd:zZ b ((i:Int)+1)=b.drop (i+1):=by unfold zZ;congr 1
   rw[if_pos h0,if_pos h0,hk0,hsub,hin1,za,zk (by omega) (by omega),za,hin2,za,ht,ji (by simp[List.length_take];omega),za,zk (by omega) (by omega),za,hin3,za,hd,
    ji (by simp[List.length_take];omega),za,zp2 (by omega),Q0 _ _ (by show(b.set i _).length<=1000;rw[List.length_set];omega),nK]
   rfl
  ·rw[if_neg h0,if_neg h0,Q0 _ _ (by show b.length<=1000;omega)]
def wZ(sg ld ng:Bool)(n:Nat)(s:uBH):uBH:=if sg then s.set (sgnAt ld n) (letC ng (s.getD (sgnAt ld n) 0))else s
theorem Zi{n:Int}(h0:0<=n)(h1:n<256):IntKind.wrap .u8 n=n:=zig h0 h1
theorem Ko{N:Nat}{i:Nat}{ng:Bool}{s:uBH}(hi:i<s.length)(hd:Digs s):ZM N (i:Int) (if ng then zcc else zk0) s=some (s.set i (letC ng (s.getD i 0))):=by
 have h:=QF hd hi;have hl:(if ng then zcc else zk0).length=10:=by cases ng<;>rfl
 unfold ZM;have e:((s.getD i 0).toNat:Int)-48=(((s.getD i 0).toNat-48:Nat):Int):=by omega
 rw[yf hi,za,za,jN,e,Zi (by omega) (by omega),yf (by omega),za,za,jN,KV (by omega) (by have:=zcO ((if ng then zcc else zk0).getD ((s.getD i 0).toNat-48) 0);omega),
  ziB,nK]
 rfl
theorem zkv{N:Nat}{f:form}{d:digits}{n:Nat}(hn:f.uA=(n:Int))(h1:1<=n)(h2:n<=100)(hs:d.s.length=n)(hd:Digs d.s):Y5 N f d=some (wZ f.uM f.uO d.neg n d.s):=by
 unfold Y5 wZ;rw[zlP hn h1 h2,zc];have hlt:=zeR (ld:=f.uO) h1;cases f.uM with
 |false=>rw[cond_false,if_neg (by simp)]
 |true=>
  rw[cond_true,if_pos rfl];have h3:=Ko (N:=N) (ng:=true) (i:=sgnAt f.uO n) (s:=d.s) (by omega) hd;have h4:=Ko (N:=N) (ng:=false) (i:=sgnAt f.uO n) (s:=d.s) (by omega) hd;cases d.neg with
  |true=>exact h3
  |false=>exact h4
theorem zv7{sg ld ng:Bool}{n:Nat}{s:uBH}:(wZ sg ld ng n s).length=s.length:=by unfold wZ;split<;>simp
theorem zxC{sg ld ng:Bool}{n:Nat}{s:uBH}(h1:1<=n)(hs:s.length=n)(hd:Digs s):rZ sg ld n (wZ sg ld ng n s)=(digits.mk (sg&&ng) s,true):=by
 have hlt:=zeR (ld:=ld) h1;unfold rZ wZ;cases sg with
 |false=>simp[hd]
 |true=>
  simp only[if_true,uBm];have e:(s.set (sgnAt ld n) (letC ng (s.getD (sgnAt ld n) 0))).getD (sgnAt ld n) 0=letC ng (s.getD (sgnAt ld n) 0):=by rw[mZ,List.getElem?_set_self (by omega)];rfl
  have e2:(s.set (sgnAt ld n) (letC ng (s.getD (sgnAt ld n) 0))).set (sgnAt ld n) (s.getD (sgnAt ld n) 0)=s:=by
   rw[List.set_set];apply uBo;intro j;rw[uAg];split
   ·rename_i h;subst h;rw[if_pos (by omega),mZ,mW (by omega)];rfl
   ·rfl
  rw[e,zqW ng (QF hd (by omega))];dsimp only;rw[e2,decide_eq_true hd]
def rS(ld:Bool)(n:Nat)(b:uBH):digits×Bool:=(digits.mk (decide (b.getD (if ld then 0 else n) 0=45)) (if ld then b.drop 1 else b.take n),decide ((b.getD (if ld then 0 else n) 0=43\/b.getD (if ld then 0 else n) 0=45)/\Digs (if ld then b.drop 1 else b.take n)))
theorem zpA{c:UInt8}{k:Nat}(hk:k<256):((c.toNat:Int)=(k:Int))↔c=UInt8.ofNat k:=by
 constructor
 ·intro h;apply UInt8.toNat_inj.1;rw[UInt8.toNat_ofNat'];omega
 ·rintro rfl;rw[UInt8.toNat_ofNat'];omega
theorem XY{N:Nat}{f:form}{b:uBH}{n at_ fr:Nat}(hn:f.uA=(n:Int))(h2:n<=100)(hb:b.length=n+1)(ha:at_<b.length)(hf:fr+n<=b.length)(d:digits):
  qR N b (at_:Int) (fr:Int) f d=some (digits.mk (decide (b.getD at_ 0=45)) ((b.take (fr+n)).drop fr),decide ((b.getD at_ 0=43\/b.getD at_ 0=45)/\Digs ((b.take (fr+n)).drop fr))):=by
 unfold qR;have e1:(fr:Int)+f.uA=((fr+n:Nat):Int):=by omega
 have hin:zm (fr:Int) ((fr+n:Nat):Int) b.length=true:=by unfold zm;simp<;>omega
 have es:Vc.sub b (fr:Int) ((fr+n:Nat):Int)=(b.take (fr+n)).drop fr:=rfl;have h43:(((b.getD at_ 0).toNat:Int)=43)↔b.getD at_ 0=43:=zpA (k:=43) (by decide);have h45:(((b.getD at_ 0).toNat:Int)=45)↔b.getD at_ 0=45:=zpA (k:=45) (by decide);obtain⟨t,t1,t2⟩:=zvV (s:=(b.take (fr+n)).drop fr) (by rw[nD,nA];omega);rw[yf ha,za,e1,zk (by omega) (by omega),za,hin,za,jN,es];simp only[t1,zc,za,decide_eq_decide.2 h43,decide_eq_decide.2 h45,decide_eq_decide.2 t2];clear h43 h45;generalize b.getD at_ 0=x;by_cases c1:x=43
 ·simp[c1]
 ·by_cases c2:x=45
  ·simp[c2]
  ·simp[c1,c2]
theorem ziv{N:Nat}{f:form}{b:uBH}{n:Nat}(hn:f.uA=(n:Int))(h2:n<=100)(hb:b.length=n+1):Y6 N f b=some (rS f.uO n b):=by
 unfold Y6 rS;cases f.uO with
 |true=>rw[cond_true];have:=XY (N:=N) hn h2 hb (at_:=0) (fr:=1) (by omega) (by omega) (digits.mk false []);rw[show(b.take (1+n)).drop 1=b.drop 1 by rw[uAh (by omega)]]at this;exact this
 |false=>rw[cond_false,hn];have:=XY (N:=N) hn h2 hb (at_:=n) (fr:=0) (by omega) (by omega) (digits.mk false []);rw[uAU,uAk]at this;exact this
def wS(ld ng:Bool)(s:uBH):uBH:=if ld then(if ng then 45 else 43)::s else s++[if ng then 45 else 43]
theorem zeJ{N:Nat}{f:form}{d:digits}(hs:d.s.length<=1000):qw N f d=some (wS f.uO d.neg d.s):=by
 unfold qw qL wS;cases d.neg<;>cases f.uO<;>simp[ji (show([45]:uBH).length+d.s.length<=1000000 by simp;omega),ji (show([43]:uBH).length+d.s.length<=1000000 by simp;omega),
  ji (show d.s.length+([45]:uBH).length<=1000000 by simp;omega),ji (show d.s.length+([43]:uBH).length<=1000000 by simp;omega)]
theorem zv8{ld ng:Bool}{s:uBH}:(wS ld ng s).length=s.length+1:=by unfold wS;split<;>simp
theorem zxD{ld ng:Bool}{n:Nat}{s:uBH}(hs:s.length=n)(hd:Digs s):rS ld n (wS ld ng s)=(digits.mk ng s,true):=by
 unfold rS wS;cases ld with
 |true=>cases ng<;>simp[hd]
 |false=>
  have e:(s++[if ng then(45:UInt8)else 43]).getD n 0=if ng then 45 else 43:=by rw[mZ,uAc (by omega)];simp[hs]
  have e2:(s++[if ng then(45:UInt8)else 43]).take n=s:=by rw[uAw (by omega),uAh (by omega)]
  simp only[nW,if_false,e,e2];cases ng<;>simp[hd]
end Go.Proofs.C06
end
section
set_option maxRecDepth 100000
namespace Go.Proofs.C06
open Go Go.RowKit Go.Vc Go.Am Go.Dg
def nib:uBH->uBH
 |[]=>[]
 |x::r=>UInt8.ofNat (x.toNat/16)::UInt8.ofNat (x.toNat%16)::nib r
theorem zdP:∀b,(nib b).length=2*b.length
 |[]=>rfl
 |x::r=>by rw[nib,nC,nC,zdP r,nC];omega
theorem zfb:∀a b,nib (a++b)=nib a++nib b
 |[],_=>rfl
 |x::a,b=>by rw[uAj,nib,nib,zfb a b];rfl
theorem zhz:∀b,∀c∈nib b,c.toNat<16
 |[],c,h=>by cases h
 |x::r,c,h=>by
  have hx:=zcO x;rw[nib]at h;rcases nS.1 h with rfl|h
  ·rw[UInt8.toNat_ofNat'];omega
  ·rcases nS.1 h with rfl|h
   ·rw[UInt8.toNat_ofNat'];omega
   ·exact zhz r c h
theorem zlE{n:Nat}(h:n<=1000000):zM 1 n=true:=by unfold zM;simp;omega
theorem zlb{b:uBH}{i:Nat}(h:i<b.length):nib (b.take (i+1))=nib (b.take i)++[UInt8.ofNat ((b.getD i 0).toNat/16),UInt8.ofNat ((b.getD i 0).toNat%16)]:=by
 have e:b.take (i+1)=b.take i++[b.getD i 0]:=by rw[uBv,mW h,mZ,mW h];rfl
 rw[e,zfb];rfl
theorem zpc(c:UInt8):([(((c.toNat:Nat):Int)/2^(Int.toNat 4)),(bits .and .u8 ((c.toNat:Nat):Int) 15)].map toByte)=[UInt8.ofNat (c.toNat/16),UInt8.ofNat (c.toNat%16)]:=by
 rw[zv6];have e1:(((c.toNat:Nat):Int)/2^(Int.toNat 4))=((c.toNat/16:Nat):Int):=by show(((c.toNat:Nat):Int)/16)=_;omega
 have e2:((c.toNat:Nat):Int)%16=((c.toNat%16:Nat):Int):=by omega
 rw[e1,e2];rfl
theorem zsi(c:UInt8):(ze .u8 (((c.toNat:Nat):Int)/2^(Int.toNat 4))&&(ze .u8 (bits .and .u8 ((c.toNat:Nat):Int) 15)&&true))=true:=by
 have hc:=zcO c;rw[zv6];have e1:(((c.toNat:Nat):Int)/2^(Int.toNat 4))=((c.toNat/16:Nat):Int):=by show(((c.toNat:Nat):Int)/16)=_;omega
 rw[e1,KV (by omega) (by omega),KV (by omega) (by omega)];rfl
def pdig(h:uBH):uBH:=h.map fun c=>UInt8.ofNat (c.toNat+48)
def zb9(sg:Bool)(l:UInt8):Prop:=if sg then l.toNat=12\/l.toNat=13 else l.toNat=15
instance(sg:Bool)(l:UInt8):Decidable (zb9 sg l):=by unfold zb9;infer_instance
def rP(sg:Bool)(D:Nat)(b:uBH):digits×Bool:=if∀c∈(nib b).take (2*b.length-1),c.toNat<=9 then(digits.mk (decide (((nib b).getD (2*b.length-1) 0).toNat=13)) ((pdig ((nib b).take (2*b.length-1))).drop (2*b.length-1-D)),decide (zb9 sg ((nib b).getD (2*b.length-1) 0)/\val ((pdig ((nib b).take (2*b.length-1))).take (2*b.length-1-D))=0))else(digits.mk false [],false)
theorem zhv{h:uBH}(hh:∀c∈h,c.toNat<=9):Digs (pdig h):=by intro x hx;unfold pdig at hx;obtain⟨c,hc,rfl⟩:=uAF.1 hx;have:=hh c hc;rw[UInt8.toNat_ofNat'];omega
def zbg(h:uBH)(t:Nat)(l:UInt8):uBH:=pdig (h.take t)++h.drop t++[l]
theorem zsI{h:uBH}{t:Nat}{l:UInt8}(ht:t<=h.length):(zbg h t l).length=h.length+1:=by unfold zbg pdig;simp[List.length_take,List.length_drop];omega
theorem zvf{h:uBH}{t:Nat}{l:UInt8}(ht:t<h.length):(zbg h t l).getD t 0=h.getD t 0:=by
 unfold zbg;have e:(pdig (h.take t)).length=t:=by unfold pdig;simp[List.length_take];omega
 rw[nI,mZ,uAc (by omega),e,uBy,nO (by rw[nD];omega),nZ,uAE,mZ]
theorem zsH{h:uBH}{t:Nat}{l:UInt8}(ht:t<h.length):(zbg h t l).set t (UInt8.ofNat ((h.getD t 0).toNat+48))=zbg h (t+1) l:=by
 have e:(pdig (h.take t)).length=t:=by unfold pdig;simp[List.length_take];omega
 have e1:h.drop t=h.getD t 0::h.drop (t+1):=by rw[uAG ht,mZ,mW ht];rfl
 have e2:h.take (t+1)=h.take t++[h.getD t 0]:=by rw[uBv,mW ht,mZ,mW ht];rfl
 have e3:pdig (h.take (t+1))=pdig (h.take t)++[UInt8.ofNat ((h.getD t 0).toNat+48)]:=by rw[e2];unfold pdig;rw[uAo];rfl
 unfold zbg;rw[e3,e1];have:pdig (h.take t)++h.getD t 0::h.drop (t+1)++[l]=pdig (h.take t)++(h.getD t 0::(h.drop (t+1)++[l])):=by simp
 rw[this,List.set_append_right _ _ (by omega),e,uBy,List.set_cons_zero];simp
theorem zqw{h:uBH}{l:UInt8}:zbg h h.length l=pdig h++[l]:=by unfold zbg;rw[uBc,uBq,nV]
theorem zgE{N:Nat}{f:form}{D n:Nat}{h:uBH}{l:UInt8}(hD:f.uA=(D:Int))(hn:h.length=n)(hDn:D<=n)(hn2:n<=1000)(hh:∀c∈h,c.toNat<=9)(last:Int)(ok:Bool)(b1:digits):
  Zk N 0 (n:Int) last ok f b1 (pdig h++[l])=some (digits.mk (decide (last=13)) ((pdig h).drop (n-D)),ok&&decide (val ((pdig h).take (n-D))=0)):=by
 have hp:(pdig h).length=n:=by unfold pdig;rw[uAn];exact hn
 unfold Zk;have e1:(n:Int)-f.uA=((n-D:Nat):Int):=by omega
 have es1:Vc.sub (pdig h++[l]) (0+0) ((0+0)+(((n-D:Nat):Int)-0))=(pdig h).take (n-D):=by unfold Vc.sub;rw[show((0:Int)+0).toNat=0 from rfl,uAk,show((0:Int)+0+(((n-D:Nat):Int)-0)).toNat=n-D by omega,uAw (by omega)]
 have es2:Vc.sub (pdig h++[l]) (0+((n-D:Nat):Int)) ((0+((n-D:Nat):Int))+((n:Int)-((n-D:Nat):Int)))=(pdig h).drop (n-D):=by unfold Vc.sub;rw[show((0:Int)+((n-D:Nat):Int)).toNat=n-D by omega,show(0+((n-D:Nat):Int)+((n:Int)-((n-D:Nat):Int))).toNat=n by omega,uAw (by omega),uAh (by omega)]
 obtain⟨t,t1,t2⟩:=zrx (s:=(pdig h).take (n-D)) (by rw[nA];omega) ((zhv hh).take _);rw[e1,zk (by omega) (by omega),za,decide_eq_true (show(0:Int)<=((n-D:Nat):Int)by omega),decide_eq_true (show((n-D:Nat):Int)<=(n:Int)by omega),decide_eq_true (show(n:Int)<=(n:Int)by omega),es1,es2,t1,zc];cases ok<;>simp[t2]
theorem Wr{N:Nat}{f:form}{D n:Nat}{h:uBH}{l:UInt8}(hD:f.uA=(D:Int))(hn:h.length=n)(hDn:D<=n)(hn2:n<=1000)(hs:∀c∈h,c.toNat<16)(b1:digits):∀(k t:Nat),t<=n->n-t<k->
  (∀c∈h.take t,c.toNat<=9)->
  JI N k 0 (n:Int) ((l.toNat:Nat):Int) (n:Int) (t:Int) f b1 (zbg h t l)=
   some (if∀c∈h,c.toNat<=9 then(digits.mk (decide (l.toNat=13)) ((pdig h).drop (n-D)),decide (zb9 f.uM l/\val ((pdig h).take (n-D))=0))else(digits.mk false [],false))
 |0,t,_,hk,_=>by omega
 |k+1,t,ht,hk,hin=>by
  show Q1 N (JI N k) 0 (n:Int) ((l.toNat:Nat):Int) (n:Int) (t:Int) f b1 (zbg h t l)=_;unfold Q1;rw[zb];by_cases h1:t<n
  ·have hlen:=zsI (h:=h) (t:=t) (l:=l) (by omega);have hv:=zvf (h:=h) (t:=t) (l:=l) (by omega);have hm:h.getD t 0∈h:=zlK (by omega);have hsm:=hs _ hm;rw[if_pos (by omega),decide_eq_true (show(0:Int)<=(t:Int)by omega),decide_eq_true (show(t:Int)<(n:Int)by omega),uA4,za,show(0:Int)+(t:Int)=(t:Int)by omega,yf (by omega),za,jN,hv,zb];by_cases h2:9<(h.getD t 0).toNat
   ·rw[if_pos (by omega),if_neg (fun hall=>by have:=hall _ hm;omega)]
   ·have e:(((h.getD t 0).toNat:Nat):Int)+48=(((h.getD t 0).toNat+48:Nat):Int):=by omega
    have e2:h.take (t+1)=h.take t++[h.getD t 0]:=by rw[uBv,mW (by omega),mZ,mW (by omega)];rfl
    rw[if_neg (by omega),za,za,za,e,Zi (by omega) (by omega),KV (by omega) (by omega),uA4,za,zk (by omega) (by omega),za,nK,zbV,zsH (by omega),
     show(t:Int)+1=((t+1:Nat):Int)by omega]
    refine Wr hD hn hDn hn2 hs b1 k (t+1) (by omega) (by omega) fun c hc=>?_
    rw[e2]at hc;rcases nJ.1 hc with hc|hc
    ·exact hin c hc
    ·rw[nF.1 hc];omega
  ·have htn:t=n:=by omega
   subst htn;have hall:∀c∈h,c.toNat<=9:=by rw[<-hn,uBc]at hin;exact hin
   rw[if_neg (by omega),if_pos hall];have ef:zbg h t l=pdig h++[l]:=by rw[<-hn];exact zqw
   rw[ef];simp only[zgE hD hn hDn hn2 hall];have h13:(((l.toNat:Nat):Int)=13)↔l.toNat=13:=by omega
   have h12:(((l.toNat:Nat):Int)=12)↔l.toNat=12:=by omega
   have h15:(((l.toNat:Nat):Int)=15)↔l.toNat=15:=by omega
   simp only[h13,h12,h15];unfold zb9;generalize val ((pdig h).take (t-D))=v;cases f.uM with
   |true=>
    by_cases c1:l.toNat=12
    ·simp[c1]
    ·by_cases c2:l.toNat=13
     ·simp[c2]
     ·simp[c1,c2]
   |false=>
    by_cases c1:l.toNat=15
    ·simp[c1]
    ·simp[c1]
theorem Ws{N:Nat}(hN:3000<N){f:form}{D:Nat}{b:uBH}(hD:f.uA=(D:Int))(hb:1<=b.length)(hDn:D<=2*b.length-1)(hb2:b.length<=300)(b1:digits):∀(k t:Nat),1<=t->t<=b.length->b.length-t<k->
  qj N k (.inr (b,(b.length:Int),(t:Int),f,b1,nib (b.take t)))=some (rP f.uM D b)
 |0,t,_,_,hk=>by omega
 |k+1,t,h0,ht,hk=>by
  show YJ N (qj N k) b (b.length:Int) (t:Int) f b1 (nib (b.take t))=_;unfold YJ;rw[zb];by_cases h1:t<b.length
  ·have hln:(nib (b.take t)).length=2*t:=by rw[zdP,nA];omega
   rw[if_pos (by omega),yf h1,za,jN,zsi,za,zpc,zlE (by simp;omega),za,zk (by omega) (by omega),za,<-zlb h1,show(t:Int)+1=((t+1:Nat):Int)by omega];exact Ws hN hD hb hDn hb2 b1 k (t+1) (by omega) (by omega) (by omega)
  ·have htb:t=b.length:=by omega
   subst htb;rw[uBc];have hln:=zdP b;have e1:(((nib b).length:Nat):Int)-1=((2*b.length-1:Nat):Int):=by omega
   have hin:zm 0 ((2*b.length-1:Nat):Int) (nib b).length=true:=by unfold zm;simp<;>omega
   have hsp:nib b=zbg ((nib b).take (2*b.length-1)) 0 ((nib b).getD (2*b.length-1) 0):=by unfold zbg pdig;rw[uBn,List.map_nil,uAu,uAk];have:=nL (2*b.length-1) (nib b);rw[uAG (by omega),uAm (by omega)]at this;rw[mZ,mW (by omega)];exact this.symm
   rw[if_neg (by omega),e1,zk (by omega) (by omega),za,yf (by omega),za,za,za,hin,za,jN,show((2*b.length-1:Nat):Int)-0=((2*b.length-1:Nat):Int)by omega];have:=Wr (N:=N) (f:=f) (D:=D) (n:=2*b.length-1) (h:=(nib b).take (2*b.length-1)) (l:=(nib b).getD (2*b.length-1) 0) hD (by rw[nA];omega) hDn (by omega)
    (fun c hc=>zhz b c (uBt hc)) b1 N 0 (by omega) (by omega) (by simp)
   rw[<-hsp]at this;exact this
theorem zmT{N:Nat}(hN:3000<N){f:form}{D:Nat}{b:uBH}(hD:f.uA=(D:Int))(hb:1<=b.length)(hDn:D<=2*b.length-1)(hb2:b.length<=300):zaL N f b=some (rP f.uM D b):=by
 unfold zaL;obtain⟨M,rfl⟩:∃M,N=M+1:=⟨N-1,by omega⟩
 show YK (M+1) (qj (M+1) M) b (b.length:Int) 0 f (digits.mk false [])=_;unfold YK;have:=zlb (b:=b) (i:=0) (by omega);rw[uBn]at this;rw[zb,if_pos (by omega),show(0:Int)=((0:Nat):Int)from rfl,yf (by omega),za,jN,zsi,za,zpc,zlE (by simp),za,zk (by omega) (by omega),za];have e0:([]:uBH)++[UInt8.ofNat ((b.getD 0 0).toNat/16),UInt8.ofNat ((b.getD 0 0).toNat%16)]=nib (b.take (0+1)):=this.symm;rw[e0,show((0:Nat):Int)+1=((0+1:Nat):Int)by omega];exact Ws hN hD hb hDn hb2 _ M (0+1) (by omega) (by omega) (by omega)
def pk(l:UInt8):uBH->uBH
 |[]=>[]
 |[a]=>[UInt8.ofNat (16*(a.toNat-48)+l.toNat)]
 |a::c::r=>UInt8.ofNat (16*(a.toNat-48)+(c.toNat-48))::pk l r
def odd(s:uBH):uBH:=if s.length%2=0 then 48::s else s
def wP(sg ng:Bool)(s:uBH):uBH:=pk (if sg then(if ng then 13 else 12)else 15) (odd s)
theorem znt(l:UInt8):∀s,s.length%2=1->(pk l s).length=s.length/2+1
 |[],h=>by simp at h
 |[a],_=>by simp[pk]
 |a::c::r,h=>by simp only[nC]at h;rw[pk,nC,znt l r (by omega),nC,nC];omega
theorem zsh{l:UInt8}(hl:l.toNat<16):∀s,s.length%2=1->Digs s->nib (pk l s)=(s.map fun c=>UInt8.ofNat (c.toNat-48))++[l]
 |[],h,_=>by simp at h
 |[a],_,hd=>by
  have ha:=(Digs.cons.1 hd).1;have e:(UInt8.ofNat (16*(a.toNat-48)+l.toNat)).toNat=16*(a.toNat-48)+l.toNat:=by rw[UInt8.toNat_ofNat'];omega
  rw[pk,nib,e,show(16*(a.toNat-48)+l.toNat)/16=a.toNat-48 by omega,show(16*(a.toNat-48)+l.toNat)%16=l.toNat by omega,UInt8.ofNat_toNat];rfl
 |a::c::r,h,hd=>by
  simp only[nC]at h;rw[Digs.cons,Digs.cons]at hd;obtain⟨ha,hc,hr⟩:=hd;have e:(UInt8.ofNat (16*(a.toNat-48)+(c.toNat-48))).toNat=16*(a.toNat-48)+(c.toNat-48):=by rw[UInt8.toNat_ofNat'];omega
  rw[pk,nib,e,show(16*(a.toNat-48)+(c.toNat-48))/16=a.toNat-48 by omega,show(16*(a.toNat-48)+(c.toNat-48))%16=c.toNat-48 by omega,zsh hl r (by omega) hr];rfl
theorem zvX(l:UInt8):∀(s:uBH)(i:Nat),s.length%2=1->2*i<s.length->
  (pk l s).getD i 0=UInt8.ofNat (16*((s.getD (2*i) 0).toNat-48)+(if 2*i+1<s.length then(s.getD (2*i+1) 0).toNat-48 else l.toNat))
 |[],i,h,_=>by simp at h
 |[a],i,_,h=>by
  have:i=0:=by simp at h;omega
  subst this;rfl
 |a::c::r,0,_,_=>by rw[if_pos (by simp)];rfl
 |a::c::r,i+1,h,hi=>by
  simp only[nC]at h hi;have:=zvX l r i (by omega) (by omega);rw[pk,List.getD_cons_succ,this,show 2*(i+1)=2*i+1+1 by omega,List.getD_cons_succ,List.getD_cons_succ,List.getD_cons_succ,List.getD_cons_succ];simp only[nC];by_cases h2:2*i+1<r.length
  ·rw[if_pos h2,if_pos (by omega)]
  ·rw[if_neg h2,if_neg (by omega)]
theorem zpa(s:uBH):(odd s).length%2=1/\(odd s).length=2*(s.length/2)+1:=by
 unfold odd;split
 ·rw[nC];omega
 ·omega
theorem zse{s:uBH}(h:Digs s):Digs (odd s):=by
 unfold odd;split
 ·exact Digs.cons.2 ⟨by decide,h⟩
 ·exact h
theorem zlO{p:uBH}{t n:Nat}(ht:t<n)(hp:p.length=n):((p.take t++List.replicate (n-t) 0).set t (p.getD t 0))=p.take (t+1)++List.replicate (n-(t+1)) 0:=by
 have e:(p.take t).length=t:=by rw[nA];omega
 have e2:p.take (t+1)=p.take t++[p.getD t 0]:=by rw[uBv,mW (by omega),mZ,mW (by omega)];rfl
 rw[List.set_append_right _ _ (by omega),e,uBy,show n-t=(n-(t+1))+1 by omega,uAa,List.set_cons_zero,e2];simp
theorem XT{N:Nat}{l:UInt8}(hl:l.toNat<16){s:uBH}{n:Nat}(ho:s.length%2=1)(hn:s.length/2+1=n)(hn2:n<=300)(hd:Digs s):∀(k t:Nat),t<=n->n-t<k->
  j6 N k ((l.toNat:Nat):Int) s (n:Int) (t:Int) ((pk l s).take t++List.replicate (n-t) 0)=some (pk l s)
 |0,t,_,hk=>by omega
 |k+1,t,ht,hk=>by
  have hpl:(pk l s).length=n:=by rw[znt l s ho];exact hn
  show JE N (j6 N k) ((l.toNat:Nat):Int) s (n:Int) (t:Int) _=_;unfold JE;rw[zb];by_cases h1:t<n
  ·have hlen:((pk l s).take t++List.replicate (n-t) (0:UInt8)).length=n:=by rw[nH,nA,nE];omega
   have hat:=zvX l s t ho (by omega);have hD1:=QF hd (show 2*t<s.length by omega);have e2:(2:Int)*(t:Int)=((2*t:Nat):Int):=by omega
   have e3:((2*t:Nat):Int)+1=((2*t+1:Nat):Int):=by omega
   have step:∀w:Nat,w<16->(pk l s).getD t 0=UInt8.ofNat (16*((s.getD (2*t) 0).toNat-48)+w)->
     qM N (j6 N k) ((l.toNat:Nat):Int) s (t:Int) (w:Int) (n:Int) (t:Int) ((pk l s).take t++List.replicate (n-t) 0)=some (pk l s):=by
    intro w hw he;unfold qM;have e4:(((s.getD (2*t) 0).toNat:Nat):Int)-48=(((s.getD (2*t) 0).toNat-48:Nat):Int):=by omega
    have e5:((((s.getD (2*t) 0).toNat-48:Nat):Int)*2^(Int.toNat 4))=((16*((s.getD (2*t) 0).toNat-48):Nat):Int):=by show(((s.getD (2*t) 0).toNat-48:Nat):Int)*16=_;omega
    have w1:IntKind.wrap .u8 (((s.getD (2*t) 0).toNat-48:Nat):Int)=(((s.getD (2*t) 0).toNat-48:Nat):Int):=Zi (by omega) (by omega);rw[e2,zk (by omega) (by omega),za,yf (by omega),za,yf (by omega),za,jN,e4,w1,e5,Zi (by omega) (by omega),zxJ (by omega) (by omega) (by omega),
     show(((16*((s.getD (2*t) 0).toNat-48):Nat):Int)+(w:Int))%256=((16*((s.getD (2*t) 0).toNat-48)+w:Nat):Int)by omega,KV (by omega) (by omega),uA4,za,zk (by omega) (by omega),za,
     nK,zbV,<-he,zlO h1 hpl,show(t:Int)+1=((t+1:Nat):Int)by omega]
    exact XT hl ho hn hn2 hd k (t+1) (by omega) (by omega)
   rw[if_pos (by omega),e2,zk (by omega) (by omega),za,e3,zk (by omega) (by omega),za,zb,za,za];by_cases h2:2*t+1<s.length
   ·have hD2:=QF hd h2;have e4:(((s.getD (2*t+1) 0).toNat:Nat):Int)-48=(((s.getD (2*t+1) 0).toNat-48:Nat):Int):=by omega
    rw[if_pos (by omega),yf h2,za,jN,e4,Zi (by omega) (by omega)];exact step _ (by omega) (by rw[hat,if_pos h2])
   ·rw[if_neg (by omega)];exact step _ hl (by rw[hat,if_neg h2])
  ·have htn:t=n:=by omega
   subst htn;rw[if_neg (by omega),uBy,List.replicate_zero,nV,uAh (by omega)]
theorem XU{N:Nat}(hN:3000<N){l:UInt8}(hl:l.toNat<16){s:uBH}(ho:s.length%2=1)(hs:s.length<=300)(hd:Digs s):qN N ((l.toNat:Nat):Int) s=some (pk l s):=by
 unfold qN;have e1:((s.length:Int)/2)+1=((s.length/2+1:Nat):Int):=by omega
 have e0:(zg (s.length:Int)&&decide (0<2)&&ze .i64 ((s.length:Int)/2))=true:=by rw[zk (by omega) (by omega)];simp[zg]
 have e2:zdu 1 ((s.length/2+1:Nat):Int)=true:=by show(Nat.ble (1*(s.length/2+1)) 281474976710656&&Nat.ble (s.length/2+1) 9223372036854775807)=true;rw[nT (by omega),nT (by omega)];rfl
 rw[e0,za,e1,zk (by omega) (by omega),za,e2,decide_eq_true rfl,uA4,za,nK,nE];have:=XT (N:=N) hl ho (n:=s.length/2+1) rfl (by omega) hd N 0 (by omega) (by omega);rw[uBn,uAu,Nat.sub_zero]at this;exact this
theorem zit{N:Nat}(hN:3000<N){f:form}{d:digits}(hs:d.s.length<=200)(hd:Digs d.s):Jq N f d=some (wP f.uM d.neg d.s):=by
 have k0:∀(w:Int)(l:UInt8),w=((l.toNat:Nat):Int)->l.toNat<16->yK N w d=some (pk l (odd d.s)):=by
  intro w l hw hl;subst hw;unfold yK odd;have e0:(zg (d.s.length:Int)&&decide (0<2))=true:=by simp[zg]
  rw[e0,za,zb];by_cases h:d.s.length%2=0
  ·rw[if_pos (by omega),if_pos h,ji (by simp;omega),za];exact XU hN hl (by simp;omega) (by simp;omega) (Digs.cons.2 ⟨by decide,hd⟩)
  ·rw[if_neg (by omega),if_neg h];exact XU hN hl (by omega) (by omega) hd
 unfold Jq wP;rw[k0 13 13 rfl (by decide),k0 12 12 rfl (by decide),k0 15 15 rfl (by decide)];cases f.uM<;>cases d.neg<;>rfl
theorem zrm{sg ng:Bool}{s:uBH}:(wP sg ng s).length=s.length/2+1:=by unfold wP;obtain⟨h1,h2⟩:=zpa s;rw[znt _ _ h1,h2];omega
theorem zr9{s:uBH}(hd:Digs s):pdig (s.map fun c=>UInt8.ofNat (c.toNat-48))=s:=by
 unfold pdig;rw[List.map_map];conv=>rhs;rw[<-List.map_id s]
 refine uAW fun c hc=>?_
 have h:=hd c hc;show UInt8.ofNat ((UInt8.ofNat (c.toNat-48)).toNat+48)=c;apply UInt8.toNat_inj.1;rw[UInt8.toNat_ofNat',UInt8.toNat_ofNat'];omega
theorem zxE{sg ng:Bool}{n:Nat}{s:uBH}(hs:s.length=n)(hd:Digs s):rP sg n (wP sg ng s)=(digits.mk (sg&&ng) s,true):=by
 obtain⟨h1,h2⟩:=zpa s;have hod:=zse hd;have hlen:=zrm (sg:=sg) (ng:=ng) (s:=s);obtain⟨l,hl,hl16⟩:∃l:UInt8,l=(if sg then(if ng then 13 else 12)else 15)/\l.toNat<16:=⟨_,rfl,by cases sg<;>cases ng<;>decide⟩
 have hnib:nib (wP sg ng s)=((odd s).map fun c=>UInt8.ofNat (c.toNat-48))++[l]:=by unfold wP;rw[<-hl];exact zsh hl16 _ h1 hod
 have hm:2*(wP sg ng s).length-1=(odd s).length:=by omega
 unfold rP;rw[hm,hnib];have e1:(((odd s).map fun c=>UInt8.ofNat (c.toNat-48))++[l]).take (odd s).length=(odd s).map fun c=>UInt8.ofNat (c.toNat-48):=by rw[uAw (by simp),uAh (by simp)]
 have e2:(((odd s).map fun c=>UInt8.ofNat (c.toNat-48))++[l]).getD (odd s).length 0=l:=by rw[mZ,uAc (by simp)];simp
 rw[e1,e2,zr9 hod];have hall:∀c∈(odd s).map fun c=>UInt8.ofNat (c.toNat-48),c.toNat<=9:=by intro x hx;obtain⟨c,hc,rfl⟩:=uAF.1 hx;have:=hod c hc;rw[UInt8.toNat_ofNat'];omega
 rw[if_pos hall];have e3:(odd s).drop ((odd s).length-n)=s:=by
  unfold odd;split
  ·rw[nC,hs,show n+1-n=1 by omega,List.drop_one,List.tail_cons]
  ·rw[hs,uBy,uAk]
 have e4:val ((odd s).take ((odd s).length-n))=0:=by
  unfold odd;split
  ·rw[nC,hs,show n+1-n=1 by omega];rfl
  ·rw[hs,uBy,uBn];rfl
 rw[e3,e4,hl];cases sg<;>cases ng<;>simp[zb9]<;>decide
end Go.Proofs.C06
end
section
set_option maxRecDepth 100000
namespace Go.Proofs.C06
open Go Go.RowKit Go.Vc Go.Am Go.Dg
def bev(l:uBH):Nat:=l.foldl (fun a c=>256*a+c.toNat) 0
theorem Vk(l:uBH)(c:UInt8):bev (l++[c])=256*bev l+c.toNat:=by unfold bev;rw[List.foldl_append];rfl
theorem JL{b:uBH}{i:Nat}(h:i<b.length):b.take (i+1)=b.take i++[b.getD i 0]:=by rw[uBv,mW h,mZ,mW h];rfl
theorem zox(b:uBH):∀n,n<=b.length->bev (b.take n)<256^n
 |0,_=>by simp[bev]
 |n+1,h=>by have ih:=zox b n (by omega);have hc:=zcO (b.getD n 0);rw[JL (by omega),Vk,Nat.pow_succ];omega
def be:Nat->Nat->uBH
 |0,_=>[]
 |k+1,v=>be k (v/256)++[UInt8.ofNat (v%256)]
theorem zaq:∀k v,(be k v).length=k
 |0,_=>rfl
 |k+1,v=>by rw[be,nH,zaq k];rfl
theorem ztA:∀k v,bev (be k v)=v%256^k
 |0,v=>by simp[be,bev,Nat.mod_one]
 |k+1,v=>by
  have e:(UInt8.ofNat (v%256)).toNat=v%256:=by rw[UInt8.toNat_ofNat'];omega
  rw[be,Vk,ztA k,e,Nat.pow_succ,Nat.mul_comm (256^k) 256,Nat.mod_mul];omega
theorem ztB:∀(k v i:Nat),i<k->(be k v).getD i 0=UInt8.ofNat (v/256^(k-1-i)%256)
 |0,_,i,h=>by omega
 |k+1,v,i,h=>by
  rw[be];by_cases hi:i<k
  ·rw[mZ,nO (by rw[zaq];exact hi),<-mZ,ztB k _ i hi,Nat.div_div_eq_div_mul,<-Nat.pow_succ',show(k-1-i).succ=k+1-1-i by omega]
  ·have:i=k:=by omega
   subst this;rw[mZ,uAc (by rw[zaq];omega),zaq,uBy,show i+1-1-i=0 by omega,uAi,Nat.div_one];rfl
theorem zhQ:∀(t m:Nat),fmt (t+1) m=UInt8.ofNat (48+m/10^t%10)::fmt t m
 |0,m=>by simp[fmt]
 |t+1,m=>by rw[fmt,zhQ t (m/10),uAj,Nat.div_div_eq_div_mul,<-Nat.pow_succ'];rfl
def rB(sg:Bool)(D:Nat)(b:uBH):digits×Bool:=(digits.mk (sg&&decide (128<=(b.getD 0 0).toNat)) (fmt D (if sg&&decide (128<=(b.getD 0 0).toNat)then 256^b.length-bev b else bev b)),decide ((if sg&&decide (128<=(b.getD 0 0).toNat)then 256^b.length-bev b else bev b)<10^D))
theorem Wt{N:Nat}{D m:Nat}(hD:D<=100)(hm:m<18446744073709551616)(ng:Bool)(b0:digits):∀(k t:Nat),t<=D->D-t<k->
  JJ N k ((m/10^t:Nat):Int) ng (fmt t m) (D:Int) (t:Int) b0=some (digits.mk ng (fmt D m),decide (m<10^D))
 |0,t,_,hk=>by omega
 |k+1,t,ht,hk=>by
  show Q2 N (JJ N k) ((m/10^t:Nat):Int) ng (fmt t m) (D:Int) (t:Int) b0=_;unfold Q2;rw[zb];have hle:m/10^t<=m:=Nat.div_le_self _ _;by_cases h1:t<D
  ·have e0:(zg ((m/10^t:Nat):Int)&&decide (0<10))=true:=by unfold zg;rw[decide_eq_true (Int.natCast_nonneg _)];rfl
   have e1:((m/10^t:Nat):Int)%10=((m/10^t%10:Nat):Int):=by omega
   have e2:((m/10^t:Nat):Int)/10=((m/10^(t+1):Nat):Int):=by rw[Nat.pow_succ,<-Nat.div_div_eq_div_mul];omega
   have hlt:m/10^t%10<10:=uBs _ (by decide);have hw:IntKind.wrap .u64 (((m/10^t%10:Nat):Int)+1)=((m/10^t%10:Nat):Int)+1:=by rw[wrap_u64];omega
   have hsub:Vc.sub ([48,49,50,51,52,53,54,55,56,57]:uBH) ((m/10^t%10:Nat):Int) (((m/10^t%10:Nat):Int)+1)=[UInt8.ofNat (48+m/10^t%10)]:=by
    have:∀q:Fin 10,Vc.sub ([48,49,50,51,52,53,54,55,56,57]:uBH) ((q.val:Nat):Int) (((q.val:Nat):Int)+1)=[UInt8.ofNat (48+q.val)]:=by decide
    exact this ⟨m/10^t%10,hlt⟩
   have hin:zm ((m/10^t%10:Nat):Int) (((m/10^t%10:Nat):Int)+1) ([48,49,50,51,52,53,54,55,56,57]:uBH).length=true:=by unfold zm;simp<;>omega
   have hu:ze .u64 ((m/10^(t+1):Nat):Int)=true:=yh.2 ⟨Int.natCast_nonneg _,by
    show _<=(18446744073709551615:Int);have h:=Nat.div_le_self m (10^(t+1));generalize m/10^(t+1)=q at h⊢;omega⟩
   have e3:[UInt8.ofNat (48+m/10^t%10)]++fmt t m=fmt (t+1) m:=(zhQ t m).symm;rw[if_pos (by omega),e0,za,za,e1,hw,hin,za,hsub,ji (by rw[js];simp;omega),za,uBm,e2,hu,za,zk (by omega) (by omega),za,e3,show(t:Int)+1=((t+1:Nat):Int)by omega];exact Wt hD hm ng b0 k (t+1) (by omega) (by omega)
  ·have htD:t=D:=by omega
   subst htD;rw[if_neg (by omega)];congr 2;rw[decide_eq_decide];have hp:=pow_pos t;constructor
   ·intro h;have h:m/10^t=0:=by omega
    rcases Nat.div_eq_zero_iff.1 h with h|h
    ·omega
    ·exact h
   ·intro h;rw[uBr h];rfl
theorem ZE{N:Nat}(hN:3000<N){f:form}{D m:Nat}(hfD:f.uA=(D:Int))(hD:D<=100)(hm:m<18446744073709551616)(ng:Bool)(b0:digits):Zl N (m:Int) ng f b0=some (digits.mk ng (fmt D m),decide (m<10^D)):=by unfold Zl;rw[hfD];have:=Wt (N:=N) hD hm ng b0 N 0 (by omega) (by omega);rw[uAi,Nat.div_one]at this;exact this
theorem zkA{b:uBH}(h:1<=b.length):∀n,1<=n->n<=b.length->bev (b.take n)/256^(n-1)=(b.getD 0 0).toNat
 |0,h0,_=>by omega
 |1,_,_=>by rw[JL (by omega),uBn,Vk];simp[bev]
 |n+2,_,hn=>by have ih:=zkA h (n+1) (by omega) (by omega);have hc:=zcO (b.getD (n+1) 0);rw[JL (by omega),Vk,show n+2-1=(n+1-1)+1 by omega,Nat.pow_succ',<-Nat.div_div_eq_div_mul,show(256*bev (b.take (n+1))+(b.getD (n+1) 0).toNat)/256=bev (b.take (n+1))by omega];exact ih
theorem Wu{N:Nat}(hN:3000<N){f:form}{D:Nat}{b:uBH}(hfD:f.uA=(D:Int))(hD:D<=100)(hb:b.length=2\/b.length=4\/b.length=8)(d:digits):∀(k t:Nat),t<=b.length->b.length-t<k->
  JK N k b ((bev (b.take t):Nat):Int) b (b.length:Int) (t:Int) f d=some (rB f.uM D b)
 |0,t,_,hk=>by omega
 |k+1,t,ht,hk=>by
  show Q3 N (JK N k) b ((bev (b.take t):Nat):Int) b (b.length:Int) (t:Int) f d=_;unfold Q3;rw[zb];by_cases h1:t<b.length
  ·have hlt:=zox b t (by omega);have hlt7:bev (b.take t)<72057594037927936:=uA1 hlt (by have:=uAp (show 0<256 by decide) (show t<=7 by omega);simpa using this);have hc:=zcO (b.getD t 0);have e1:((bev (b.take t):Nat):Int)*2^(Int.toNat 8)=((256*bev (b.take t):Nat):Int):=by show((bev (b.take t):Nat):Int)*256=_;omega
   have e2:bits .or .u64 (IntKind.wrap .u64 (((bev (b.take t):Nat):Int)*2^(Int.toNat 8))) (IntKind.wrap .u64 (((b.getD t 0).toNat:Nat):Int))=((bev (b.take (t+1)):Nat):Int):=by rw[e1,wrap_u64,wrap_u64,zwL (by omega) (by omega) (by omega),JL h1,Vk];omega
   rw[if_pos (by omega),yf h1,za,zk (by omega) (by omega),za,jN,e2,show(t:Int)+1=((t+1:Nat):Int)by omega];exact Wu hN hfD hD hb d k (t+1) (by omega) (by omega)
  ·have htb:t=b.length:=by omega
   subst htb;have hlt:=zox b b.length (nB _);have htop:=zkA (b:=b) (by omega) b.length (by omega) (nB _);rw[uBc]at hlt htop⊢;rw[if_neg (by omega),yf (show 0<b.length by omega)|>fun h=>(show zn 0 b.length=true from h),za];have eb:byteAt b 0=(((b.getD 0 0).toNat:Nat):Int):=rfl;have e128:((128:Int)<=(((b.getD 0 0).toNat:Nat):Int))↔128<=(b.getD 0 0).toNat:=by omega
   have hno:∀ng,ng=false->Zm N b ((bev b:Nat):Int) ng f d=some (digits.mk false (fmt D (bev b)),decide (bev b<10^D)):=by rintro _ rfl;unfold Zm;rw[cond_false];refine ZE hN hfD hD ?_ _ _;rcases hb with h|h|h<;>rw[h]at hlt<;>omega
   unfold rB;cases f.uM with
   |false=>rw[cond_false,hno _ rfl];simp
   |true=>
    rw[cond_true,eb];by_cases hg:128<=(b.getD 0 0).toNat
    ·rw[decide_eq_true (e128.2 hg),decide_eq_true hg];simp only[uA4,if_true];unfold Zm;rw[cond_true,zb];rcases hb with h|h|h
     ·rw[h]at hlt htop⊢;have w1:IntKind.wrap .u64 (-((bev b:Nat):Int))=18446744073709551616-((bev b:Nat):Int):=by rw[wrap_u64];omega
      have w2:IntKind.wrap .u64 (IntKind.wrap .u64 (1*2^(8*((2:Nat):Int)).toNat)-1)=((2^16-1:Nat):Int):=by decide
      have w3:bits .and .u64 (18446744073709551616-((bev b:Nat):Int)) ((2^16-1:Nat):Int)=((256^2-bev b:Nat):Int):=by rw[XL (by decide),wrap_u64];omega
      rw[if_pos (by decide),zk (by decide) (by decide),za,show(zg (8*((2:Nat):Int))&&Nat.ble (8*((2:Nat):Int)).toNat 64)=true by decide,za,w1,w2,w3];exact ZE hN hfD hD (by omega) _ _
     ·rw[h]at hlt htop⊢;have w1:IntKind.wrap .u64 (-((bev b:Nat):Int))=18446744073709551616-((bev b:Nat):Int):=by rw[wrap_u64];omega
      have w2:IntKind.wrap .u64 (IntKind.wrap .u64 (1*2^(8*((4:Nat):Int)).toNat)-1)=((2^32-1:Nat):Int):=by decide
      have w3:bits .and .u64 (18446744073709551616-((bev b:Nat):Int)) ((2^32-1:Nat):Int)=((256^4-bev b:Nat):Int):=by rw[XL (by decide),wrap_u64];omega
      rw[if_pos (by decide),zk (by decide) (by decide),za,show(zg (8*((4:Nat):Int))&&Nat.ble (8*((4:Nat):Int)).toNat 64)=true by decide,za,w1,w2,w3];exact ZE hN hfD hD (by omega) _ _
     ·rw[h]at hlt htop⊢;have w1:IntKind.wrap .u64 (-((bev b:Nat):Int))=((256^8-bev b:Nat):Int):=by rw[wrap_u64];omega
      rw[if_neg (by decide),w1];exact ZE hN hfD hD (by omega) _ _
    ·rw[decide_eq_false (fun h=>hg (e128.1 h)),decide_eq_false hg,hno _ rfl];simp
theorem zmU{N:Nat}(hN:3000<N){f:form}{D:Nat}{b:uBH}(hfD:f.uA=(D:Int))(hD:D<=100)(hb:b.length=2\/b.length=4\/b.length=8):zaM N f b=some (rB f.uM D b):=by unfold zaM;exact Wu hN hfD hD hb _ N 0 (by omega) (by omega)
def wB(k:Nat)(ng:Bool)(s:uBH):uBH:=be k (if ng then(18446744073709551616-val s)%18446744073709551616 else val s)
theorem XV{N:Nat}{f:form}{x k:Nat}(hk:f.uK=(k:Int))(hk8:k<=8):∀(n t:Nat),t<=k->k-t<n->
  qO N n (x:Int) (k:Int) (t:Int) f ((be k x).take t++List.replicate (k-t) 0)=some (be k x)
 |0,t,_,hn=>by omega
 |n+1,t,ht,hn=>by
  have hl:=zaq k x;show JF N (qO N n) (x:Int) (k:Int) (t:Int) f _=_;unfold JF;rw[zb];by_cases h1:t<k
  ·have hlen:((be k x).take t++List.replicate (k-t) (0:UInt8)).length=k:=by rw[nH,nA,nE];omega
   have e1:(f.uK-1)-(t:Int)=((k-1-t:Nat):Int):=by omega
   have e2:(8:Int)*((k-1-t:Nat):Int)=((8*(k-1-t):Nat):Int):=by omega
   have e3:(zg ((8*(k-1-t):Nat):Int)&&Nat.ble (((8*(k-1-t):Nat):Int)).toNat 64)=true:=by rw[nK,nT (by omega),uAL];exact decide_eq_true (by omega)
   have e4:(x:Int)/2^(((8*(k-1-t):Nat):Int)).toNat=((x/256^(k-1-t):Nat):Int):=by
    have e:(2:Int)^(8*(k-1-t))=((256^(k-1-t):Nat):Int):=by
     rw[show(256:Nat)=2^8 from rfl,<-Nat.pow_mul]
     norm_cast
    rw[nK,e,<-Int.natCast_ediv]
   have e5:IntKind.wrap .u8 ((x/256^(k-1-t):Nat):Int)=((x/256^(k-1-t)%256:Nat):Int):=by rw[zka];omega
   rw[if_pos (by omega),zk (by omega) (by omega),za,e1,zk (by omega) (by omega),za,e2,zk (by omega) (by omega),za,e3,za,yf (by omega),za,e4,e5,KV (by omega) (by omega),uA4,za,
    zk (by omega) (by omega),za,nK,zbV,<-ztB k x t h1,zlO h1 hl,show(t:Int)+1=((t+1:Nat):Int)by omega]
   exact XV hk hk8 n (t+1) (by omega) (by omega)
  ·have:t=k:=by omega
   subst this;rw[if_neg (by omega),uBy,List.replicate_zero,nV,uAh (by omega)]
theorem XX{N:Nat}(hN:3000<N){f:form}{x k:Nat}(hk:f.uK=(k:Int))(hk8:k<=8):qQ N (x:Int) f=some (be k x):=by
 unfold qQ;have e2:zdu 1 (k:Int)=true:=by show(Nat.ble (1*k) 281474976710656&&Nat.ble k 9223372036854775807)=true;rw[nT (by omega),nT (by omega)];rfl
 rw[hk,e2,decide_eq_true rfl,uA4,za,nK,nE];have:=XV (N:=N) (x:=x) hk hk8 N 0 (by omega) (by omega);rw[uBn,uAu,Nat.sub_zero]at this;exact this
theorem XW{N:Nat}(hN:3000<N){f:form}{d:digits}{k:Nat}(hk:f.uK=(k:Int))(hk8:k<=8)(hs:d.s.length<=18)(hd:Digs d.s):∀(n t:Nat),t<=d.s.length->d.s.length-t<n->
  qP N n ((val (d.s.take t):Nat):Int) (d.s.length:Int) (t:Int) f d=some (wB k d.neg d.s)
 |0,t,_,hn=>by omega
 |n+1,t,ht,hn=>by
  show JG N (qP N n) ((val (d.s.take t):Nat):Int) (d.s.length:Int) (t:Int) f d=_;unfold JG;rw[zb];have hv:=ym (hd.take t);have hv18:val (d.s.take t)<1000000000000000000:=uA1 hv (by
   have:=uAp (show 0<10 by decide) (show(d.s.take t).length<=18 by rw[nA];omega);simpa using this)
  by_cases h1:t<d.s.length
  ·have hc:=QF hd h1;have e1:(((d.s.getD t 0).toNat:Nat):Int)-48=(((d.s.getD t 0).toNat-48:Nat):Int):=by omega
   have e2:IntKind.wrap .u64 (IntKind.wrap .u64 (10*((val (d.s.take t):Nat):Int))+IntKind.wrap .u64 (IntKind.wrap .u8 ((((d.s.getD t 0).toNat:Nat):Int)-48)))=((val (d.s.take (t+1)):Nat):Int):=by rw[e1,Zi (by omega) (by omega),wrap_u64,wrap_u64,wrap_u64,JL h1,zeE];omega
   rw[if_pos (by omega),yf h1,za,zk (by omega) (by omega),za,jN,e2,show(t:Int)+1=((t+1:Nat):Int)by omega];exact XW hN hk hk8 hs hd n (t+1) (by omega) (by omega)
  ·have:t=d.s.length:=by omega
   subst this;rw[uBc]at hv18⊢;rw[if_neg (by omega)];unfold wB;cases d.neg with
   |true=>
    have e:IntKind.wrap .u64 (-((val d.s:Nat):Int))=(((18446744073709551616-val d.s)%18446744073709551616:Nat):Int):=by rw[wrap_u64];omega
    rw[cond_true,e,XX hN hk hk8];rfl
   |false=>rw[cond_false,XX hN hk hk8];rfl
theorem ziu{N:Nat}(hN:3000<N){f:form}{d:digits}{k:Nat}(hk:f.uK=(k:Int))(hk8:k<=8)(hs:d.s.length<=18)(hd:Digs d.s):Jr N f d=some (wB k d.neg d.s):=by unfold Jr;have:=XW (N:=N) hN hk hk8 hs hd N 0 (by omega) (by omega);rw[uBn]at this;exact this
theorem zv9{k:Nat}{ng:Bool}{s:uBH}:(wB k ng s).length=k:=zaq _ _
def Y0(n:Nat):Nat:=if n<=4 then 2 else if n<=9 then 4 else 8
theorem zxF{sg ng:Bool}{n:Nat}{s:uBH}(hn:n<=18)(hs:s.length=n)(hd:Digs s)(hsg:ng=true->sg=true/\val s≠0):rB sg n (wB (Y0 n) ng s)=(digits.mk ng s,true):=by
 have hv:=ym hd;rw[hs]at hv;have hf:fmt n (val s)=s:=by rw[<-hs];exact zpn hd
 have hbound:Y0 n=2/\val s<10000\/Y0 n=4/\val s<1000000000\/Y0 n=8/\val s<1000000000000000000:=by
  unfold Y0;have hle:∀m,n<=m->val s<10^m:=fun m hm=>uA1 hv (uAp (by decide) hm)
  by_cases h4:n<=4
  ·rw[if_pos h4];exact .inl ⟨rfl,by simpa using hle 4 h4⟩
  ·rw[if_neg h4];by_cases h9:n<=9
   ·rw[if_pos h9];exact .inr (.inl ⟨rfl,by simpa using hle 9 h9⟩)
   ·rw[if_neg h9];exact .inr (.inr ⟨rfl,by simpa using hle 18 hn⟩)
 have key:∀(k x:Nat),1<=k->(be k x).getD 0 0=UInt8.ofNat (x/256^(k-1)%256):=fun k x h=>ztB k x 0 (by omega)
 have kb:∀(k x:Nat),1<=k->((be k x).getD 0 0).toNat=x/256^(k-1)%256:=fun k x h=>by rw[key k x h,UInt8.toNat_ofNat'];omega
 unfold rB wB;rw[ztA,zaq];cases ng with
 |false=>
  have h0:¬128<=((be (Y0 n) (val s)).getD 0 0).toNat:=by rcases hbound with⟨hk,hb⟩|⟨hk,hb⟩|⟨hk,hb⟩<;>rw[hk,kb _ _ (by decide)]<;>simp<;>omega
  have h1:val s%256^Y0 n=val s:=Nat.mod_eq_of_lt (by rcases hbound with⟨hk,hb⟩|⟨hk,hb⟩|⟨hk,hb⟩<;>rw[hk]<;>omega);simp only[nW,if_false,decide_eq_false h0,Bool.and_false,h1,hf,decide_eq_true hv]
 |true=>
  obtain⟨rfl,h00⟩:=hsg rfl;have hx:(18446744073709551616-val s)%18446744073709551616=18446744073709551616-val s:=by rcases hbound with⟨hk,hb⟩|⟨hk,hb⟩|⟨hk,hb⟩<;>omega
  have h0:128<=((be (Y0 n) (18446744073709551616-val s)).getD 0 0).toNat:=by rcases hbound with⟨hk,hb⟩|⟨hk,hb⟩|⟨hk,hb⟩<;>rw[hk,kb _ _ (by decide)]<;>simp<;>omega
  have h1:256^Y0 n-(18446744073709551616-val s)%256^Y0 n=val s:=by rcases hbound with⟨hk,hb⟩|⟨hk,hb⟩|⟨hk,hb⟩<;>rw[hk]<;>omega
  simp only[if_true,hx,decide_eq_true h0,uA4,h1,hf,decide_eq_true hv]
end Go.Proofs.C06
end
section
set_option maxRecDepth 100000
namespace Go.Proofs.C06
open Go Go.RowKit Go.Vc Go.Am Go.Dg
end Go.Proofs.C06
end
section
set_option maxRecDepth 100000
namespace Go.Proofs.C06
open Go Go.RowKit Go.Vc Go.Am Go.Dg
theorem zmW{b:uBH}{i:Nat}(h:i<b.length):b.take (i+1)=b.take i++[b.getD i 0]:=by rw[uBv,mW h,mZ,mW h];rfl
end Go.Proofs.C06
end
section
set_option maxRecDepth 100000
namespace Go.Proofs.C06
open Go Go.RowKit Go.Vc Go.Am Go.Dg
end Go.Proofs.C06
end
