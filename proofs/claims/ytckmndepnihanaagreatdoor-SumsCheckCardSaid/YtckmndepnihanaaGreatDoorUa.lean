/-
  A part of the proof of the laws.
-/
import Derived.Lib.SlTrimSet
import Derived.Lib.Strings
import Derived.Test.YtckmndepnihanaaGreatDoorS2
import Derived.Test.YtckmndepnihanaaGreatDoorPa
import Derived.Laws.Entries
import Derived.Test.YtckmndepnihanaaGreatDoorS4
section
namespace Go.Dg
def Digs(l:List UInt8):Prop:=∀c∈l,48≤c.toNat∧c.toNat≤57
instance(l:List UInt8):Decidable (Digs l):=by unfold Digs;infer_instance
theorem Digs.nil:Digs []:=by simp[Digs]
theorem Digs.cons{c:UInt8}{l:List UInt8}:Digs (c::l)↔(48≤c.toNat∧c.toNat≤57)∧Digs l:=by simp[Digs]
theorem Digs.append{a b:List UInt8}:Digs (a++b)↔Digs a∧Digs b:=by
 unfold Digs;constructor
 ·intro h;exact⟨fun c hc=>h c (List.mem_append_left _ hc),fun c hc=>h c (List.mem_append_right _ hc)⟩
 ·rintro⟨h1,h2⟩ c hc;rcases List.mem_append.1 hc with h|h
  ·exact h1 c h
  ·exact h2 c h
theorem Digs.drop{l:List UInt8}(h:Digs l)(n:Nat):Digs (l.drop n):=fun c hc=>h c (List.mem_of_mem_drop hc)
theorem Digs.zeros(n:Nat):Digs (List.replicate n 48):=fun c hc=>by rw[(List.mem_replicate.1 hc).2];decide
def val(l:List UInt8):Nat:=l.foldl (fun a c=>10*a+(c.toNat-48)) 0
theorem Q0:∀(l:List UInt8)(a:Nat),l.foldl (fun a c=>10*a+(c.toNat-48)) a=a*10^l.length+val l
 |[],a=>by simp[val]
 |c::l,a=>by
  have h1:=Q0 l (10*a+(c.toNat-48));have h2:=Q0 l (10*0+(c.toNat-48));have h3:val (c::l)=l.foldl (fun a c=>10*a+(c.toNat-48)) (10*0+(c.toNat-48)):=rfl;rw[List.foldl_cons,h1,h3,h2,List.length_cons,Nat.pow_succ,Nat.add_mul,Nat.add_mul];have e:10*a*10^l.length=a*(10^l.length*10):=by rw[Nat.mul_comm 10 a,Nat.mul_assoc,Nat.mul_comm 10]
  omega
theorem JH:val []=0:=rfl
theorem jo(c:UInt8)(l:List UInt8):val (c::l)=(c.toNat-48)*10^l.length+val l:=by have:=Q0 l (10*0+(c.toNat-48));have h3:val (c::l)=l.foldl (fun a c=>10*a+(c.toNat-48)) (10*0+(c.toNat-48)):=rfl;rw[h3,this,Nat.mul_zero,Nat.zero_add]
theorem yO(a b:List UInt8):val (a++b)=val a*10^b.length+val b:=by
 have:val (a++b)=b.foldl (fun a c=>10*a+(c.toNat-48)) (val a):=by unfold val;rw[List.foldl_append]
 rw[this,Q0]
theorem zcy(l:List UInt8)(c:UInt8):val (l++[c])=10*val l+(c.toNat-48):=by rw[yO,jo,JH];simp;omega
theorem pow_pos(n:Nat):0<10^n:=Nat.pow_pos (by decide)
theorem jI:∀{l:List UInt8},Digs l→val l<10^l.length
 |[],_=>by simp[val]
 |c::l,h=>by rw[Digs.cons]at h;have ih:=jI h.2;rw[jo,List.length_cons,Nat.pow_succ];have:(c.toNat-48)*10^l.length≤9*10^l.length:=Nat.mul_le_mul_right _ (by omega);omega
theorem Wg:∀n,val (List.replicate n 48)=0
 |0=>rfl
 |n+1=>by rw[List.replicate_succ,jo,Wg n];simp
theorem Wf(n:Nat)(l:List UInt8):val (List.replicate n 48++l)=val l:=by rw[yO,Wg];simp
theorem yw(l:List UInt8)(n:Nat):val (l++List.replicate n 48)=val l*10^n:=by rw[yO,Wg,List.length_replicate];simp
theorem znX{l:List UInt8}(h:Digs l)(h0:val l=0):∀c∈l,c=48:=by
 induction l with
 |nil=>simp
 |cons c l ih=>
  rw[Digs.cons]at h;rw[jo]at h0;have hp:=pow_pos l.length;have h1:(c.toNat-48)*10^l.length=0:=by omega
  have h2:c.toNat-48=0:=by
   rcases Nat.mul_eq_zero.1 h1 with h|h
   ·exact h
   ·omega
  intro x hx;rcases List.mem_cons.1 hx with rfl|hx
  ·apply UInt8.toNat_inj.1;show x.toNat=48;omega
  ·exact ih h.2 (by omega) x hx
theorem zoc{a b x y P:Nat}(hx:x<P)(hy:y<P)(h:a*P+x=b*P+y):a=b∧x=y:=by
 have h1:a=b:=by
  rcases Nat.lt_trichotomy a b with h'|h'|h'
  ·have:=Nat.mul_le_mul_right P (show a+1≤b from h');rw[Nat.succ_mul]at this;omega
  ·exact h'
  ·have:=Nat.mul_le_mul_right P (show b+1≤a from h');rw[Nat.succ_mul]at this;omega
 subst h1;exact⟨rfl,by omega⟩
theorem zft:∀{a b:List UInt8},Digs a→Digs b→a.length=b.length→val a=val b→a=b
 |[],[],_,_,_,_=>rfl
 |[],_::_,_,_,h,_=>by simp at h
 |_::_,[],_,_,h,_=>by simp at h
 |x::a,y::b,ha,hb,hl,h=>by
  rw[Digs.cons]at ha hb;simp only[List.length_cons,Nat.add_right_cancel_iff]at hl;rw[jo,jo,hl]at h;have h1:=jI ha.2;rw[hl]at h1;obtain⟨e1,e2⟩:=zoc h1 (jI hb.2) h;rw[zft ha.2 hb.2 hl e2];have:x.toNat=y.toNat:=by omega
  rw[UInt8.toNat_inj.1 this]
theorem Xc{l:List UInt8}(h:Digs l){m:Nat}(hm:m≤l.length):val (l.take (l.length-m))=val l/10^m∧val (l.drop (l.length-m))=val l%10^m:=by
 have e:val l=val (l.take (l.length-m))*10^m+val (l.drop (l.length-m)):=by have:=yO (l.take (l.length-m)) (l.drop (l.length-m));rw[List.take_append_drop,List.length_drop]at this;rw[this];congr 3;omega
 have hlt:val (l.drop (l.length-m))<10^m:=by have:=jI (h.drop (l.length-m));rw[List.length_drop]at this;rwa [show l.length-(l.length-m)=m by omega]at this
 have hp:=pow_pos m;constructor
 ·rw[e,Nat.mul_comm,Nat.mul_add_div hp,Nat.div_eq_of_lt hlt,Nat.add_zero]
 ·rw[e,Nat.mul_comm,Nat.mul_add_mod,Nat.mod_eq_of_lt hlt]
def fmt:Nat→Nat→List UInt8
 |0,_=>[]
 |n+1,v=>fmt n (v/10)++[UInt8.ofNat (48+v%10)]
theorem jw:∀n v,(fmt n v).length=n
 |0,_=>rfl
 |n+1,v=>by rw[fmt,List.length_append,jw n];rfl
theorem Jw{d:Nat}(h:d<10):(UInt8.ofNat (48+d)).toNat=48+d:=by rw[UInt8.toNat_ofNat'];omega
theorem qd:∀n v,Digs (fmt n v)
 |0,_=>Digs.nil
 |n+1,v=>by rw[fmt,Digs.append,Digs.cons];refine⟨qd n _,?_,Digs.nil⟩;rw[Jw (Nat.mod_lt _ (by decide))];omega
theorem Zd:∀n v,v<10^n→val (fmt n v)=v
 |0,v,h=>by
  have:v=0:=by simpa using h
  rw[this];rfl
 |n+1,v,h=>by rw[fmt,zcy,Zd n (v/10) (by rw[Nat.pow_succ]at h;omega),Jw (Nat.mod_lt _ (by decide))];omega
theorem zvB{l:List UInt8}(h:Digs l):fmt l.length (val l)=l:=
 zft (qd _ _) h (jw _ _) (Zd _ _ (jI h))
theorem zxh{l:List UInt8}{n v:Nat}(h:Digs l)(hl:l.length=n)(hv:val l=v):l=fmt n v:=by subst hl hv;exact (zvB h).symm
def tz(l:List UInt8):List UInt8:=l.dropWhile (· ==48)
theorem zfB(c:UInt8)(l:List UInt8):tz (c::l)=if c=48 then tz l else c::l:=by unfold tz;rw[List.dropWhile_cons];by_cases h:c=48<;>simp[h]
theorem zsg(l:List UInt8):Lib.trimLeftS l [48]=tz l:=by unfold Lib.trimLeftS tz;congr 1;funext c;by_cases h:c=48<;>simp[h]
theorem JG:∀l,val (tz l)=val l
 |[]=>rfl
 |c::l=>by
  rw[zfB];split
  ·rename_i h;subst h;rw[JG l,jo];simp
  ·rfl
theorem Digs.tz{l:List UInt8}(h:Digs l):Digs (tz l):=fun c hc=>h c ((List.dropWhile_sublist _).subset hc)
theorem zcA(l:List UInt8):(tz l).length≤l.length:=(List.dropWhile_sublist _).length_le
theorem X1{l:List UInt8}{c:UInt8}{r:List UInt8}(h:tz l=c::r):c≠48:=by
 induction l with
 |nil=>cases h
 |cons x l ih=>
  rw[zfB]at h;split at h
  ·exact ih h
  ·rename_i hx;cases h;exact hx
theorem YD{l:List UInt8}(h:Digs l):tz l=[]↔val l=0:=by
 constructor
 ·intro e;rw[←JG,e];rfl
 ·intro e;rcases hl:tz l with _|⟨c,r⟩
  ·rfl
  ·have:=znX h.tz (by rw[JG];exact e) c (by rw[hl];simp);exact absurd this (X1 hl)
theorem Wi{l:List UInt8}(h:Digs l)(h0:val l≠0):10^((tz l).length-1)≤val l∧val l<10^(tz l).length∧1≤(tz l).length:=by
 have hd:=h.tz;have e:=JG l;rcases hl:tz l with _|⟨c,r⟩
 ·exact absurd ((YD h).1 hl) h0
 ·have hc:=X1 hl;rw[hl]at hd e;refine⟨?_,by rw[←e];exact jI hd,by simp⟩;rw[←e,jo,List.length_cons,Nat.add_sub_cancel];rw[Digs.cons]at hd;have h1:1≤c.toNat-48:=by
   have:c.toNat≠48:=fun h=>hc (UInt8.toNat_inj.1 h)
   omega
  have:=Nat.mul_le_mul_right (10^r.length) h1;omega
theorem zxw{a b:List UInt8}(ha:Digs a)(hb:Digs b)(h:val a=val b):tz a=tz b:=by
 by_cases h0:val a=0
 ·rw[(YD ha).2 h0,(YD hb).2 (h▸h0)]
 ·obtain⟨a1,a2,a3⟩:=Wi ha h0;obtain⟨b1,b2,b3⟩:=Wi hb (h▸h0);refine zft ha.tz hb.tz ?_ (by rw[JG,JG,h]);rcases Nat.lt_trichotomy (tz a).length (tz b).length with hl|hl|hl
  ·have:=Nat.pow_le_pow_right (show 0<10 by decide) (show(tz a).length≤(tz b).length-1 by omega);omega
  ·exact hl
  ·have:=Nat.pow_le_pow_right (show 0<10 by decide) (show(tz b).length≤(tz a).length-1 by omega);omega
def dstr(v:Nat):List UInt8:=tz (fmt v v)
theorem ziF(v:Nat):v<10^v:=Nat.lt_pow_self (by decide)
theorem yz(v:Nat):Digs (dstr v):=(qd v v).tz
theorem yg(v:Nat):val (dstr v)=v:=by unfold dstr;rw[JG,Zd v v (ziF v)]
theorem ZG{l:List UInt8}(h:Digs l):dstr (val l)=tz l:=
 zxw (qd _ _) h (Zd _ _ (ziF _))
theorem zfA(v:Nat):tz (dstr v)=dstr v:=by have:=ZG (yz v);rw[yg]at this;exact this.symm
theorem Jv{v:Nat}:dstr v=[]↔v=0:=by rw[←zfA,YD (yz v),yg]
theorem zhz{l:List UInt8}(h:Digs l)(h0:∀c r,l=c::r→c≠48):dstr (val l)=l:=by
 rw[ZG h];cases l with
 |nil=>rfl
 |cons c r=>rw[zfB,if_neg (h0 c r rfl)]
theorem yU{v:Nat}(h:v≠0):10^((dstr v).length-1)≤v∧v<10^(dstr v).length∧1≤(dstr v).length:=by have:=Wi (yz v) (by rw[yg];exact h);rwa [yg,zfA]at this
theorem zdx{v n:Nat}(h:v<10^n):(dstr v).length≤n:=by
 by_cases h0:v=0
 ·subst h0;rw[Jv.2 rfl];simp
 ·obtain⟨h1,_,h3⟩:=yU h0;rcases Nat.lt_or_ge n (dstr v).length with hl|hl
  ·have:=Nat.pow_le_pow_right (show 0<10 by decide) (show n≤(dstr v).length-1 by omega);omega
  ·exact hl
end Go.Dg
end
section
namespace Go.Dg
def zK:Nat→Nat→Nat×Nat
 |0,v=>(v,0)
 |s+1,v=>if v%10=0 then zK s (v/10)else(v,s+1)
theorem Xx:∀(s v:Nat),v=(zK s v).1*10^(s-(zK s v).2)∧(zK s v).2≤s∧((zK s v).2=0∨(zK s v).1%10≠0)
 |0,v=>⟨by simp[zK],Nat.le_refl _,.inl rfl⟩
 |s+1,v=>by
  by_cases h:v%10=0
  ·have e:zK (s+1) v=zK s (v/10):=by rw[zK,if_pos h]
   obtain⟨h1,h2,h3⟩:=Xx s (v/10);rw[e];refine⟨?_,by omega,h3⟩;rw[show s+1-(zK s (v/10)).2=(s-(zK s (v/10)).2)+1 by omega,Nat.pow_succ,←Nat.mul_assoc,←h1];omega
  ·have e:zK (s+1) v=(v,s+1):=by rw[zK,if_neg h]
   rw[e];exact⟨by simp,Nat.le_refl _,.inr h⟩
def ZL(neg:Bool)(v s:Nat):Bool×List UInt8×Nat:=if v=0 then(false,[48],0)else(neg,dstr (zK s v).1,(zK s v).2)
theorem XR(neg:Bool)(s:Nat):ZL neg 0 s=(false,[48],0):=by unfold ZL;rw[if_pos rfl]
end Go.Dg
end
section
set_option maxRecDepth 100000
namespace Go.Proofs.C06
open Go Go.RowKit Go.Vc Go.Am Go.Dg
theorem yv{a b:List UInt8}(h:a.length+b.length≤1000000):yC a b=true:=by rw[zfh];omega
theorem Qh{p:UInt8→Bool}:∀{l:List UInt8}{c:UInt8}{r:List UInt8},l.dropWhile p=c::r→p c=false
 |[],_,_,h=>by cases h
 |x::l,c,r,h=>by
  rw[List.dropWhile_cons]at h;split at h
  ·exact Qh h
  ·rename_i hx;cases h;simpa using hx
theorem Jb{p:UInt8→Bool}:∀{l:List UInt8},l.dropWhile p=[]↔∀c∈l,p c=true
 |[]=>by simp
 |x::l=>by
  rw[List.dropWhile_cons];split
  ·rename_i h;rw[Jb];simp[h]
  ·rename_i h;simp[h]
theorem zmV(s cs:List UInt8):Lib.trimS s cs=[]↔∀c∈s,cs.contains c=true:=by
 unfold Lib.trimS Lib.trimLeftS Lib.trimRightS;rw[Jb];constructor
 ·intro h;have h2:s.reverse.dropWhile (cs.contains ·)=[]:=by
   rcases hr:s.reverse.dropWhile (cs.contains ·)with _|⟨c,r⟩
   ·rfl
   ·have h1:=Qh hr;have:=h c (by rw[hr];simp);rw[this]at h1;cases h1
  rw[Jb]at h2;exact fun c hc=>h2 c (by simpa using hc)
 ·intro h c hc;have hc:c∈s.reverse.dropWhile (cs.contains ·):=by simpa using hc
  have:=(List.dropWhile_sublist _).subset hc;exact h c (by simpa using this)
theorem zfa(c:UInt8):([48,49,50,51,52,53,54,55,56,57]:List UInt8).contains c=true↔48≤c.toNat∧c.toNat≤57:=by
 constructor
 ·intro h;simp only[List.contains_cons,List.contains_nil,Bool.or_false,Bool.or_eq_true,beq_iff_eq]at h;rcases h with rfl|rfl|rfl|rfl|rfl|rfl|rfl|rfl|rfl|rfl<;>decide
 ·rintro⟨h1,h2⟩;have:∀m:Fin 256,48≤m.val→m.val≤57→([48,49,50,51,52,53,54,55,56,57]:List UInt8).contains (UInt8.ofNat m.val)=true:=by decide
  have h:=this ⟨c.toNat,UInt8.toNat_lt c⟩ h1 h2;simpa using h
theorem zrn{s cs:List UInt8}(hs:s.length≤1000000)(hc:cs.length≤1000)(ha:zdT cs=true):Vy s cs=some (Lib.trimS s cs):=by unfold Vy;rw[decide_eq_true (show s.length≤9223372036854775807 by omega),decide_eq_true (show cs.length<4294967281 by omega),ha];rfl
theorem zkT{N:Nat}{s:List UInt8}(hs:s.length≤1000000):VW N s=some (decide (s≠[]∧Digs s)):=by
 unfold VW;rw[Q5];by_cases h:s=[]
 ·rw[if_pos h];simp[h]
 ·rw[if_neg h,zrn hs (by decide) (by decide),zl];congr 1;rw[Bool.eq_iff_iff];simp only[decide_eq_true_eq];rw[zmV];constructor
  ·intro k;exact⟨h,fun c hc=>(zfa c).1 (k c hc)⟩
  ·rintro⟨_,k⟩ c hc;exact (zfa c).2 (k c hc)
theorem qv{s:List UInt8}:js s [48]=some (tz s):=by unfold js;rw[zsg];rfl
theorem ZB{m:Nat}(hm:m≤100000):yb [48] (m:Int)=some (List.replicate m 48):=by
 have e:Lib.repeatL [48] m=List.replicate m 48:=by
  induction m with
  |zero=>rfl
  |succ m ih=>rw[Lib.repeatL,ih (by omega),List.replicate_succ];rfl
 unfold yb;simp only[Int.toNat_natCast,List.length_cons,List.length_nil];rw[decide_eq_true (show(0:Int)≤(m:Int)by omega),decide_eq_true (show(m:Int)≤9223372036854775807 by omega),decide_eq_true (by omega),e];rfl
theorem zaj(l:List UInt8)(c:UInt8)(hl:l.length≤1000000):J6 (l++[c]) [48]=some (decide (c=48)):=by
 unfold J6;rw[decide_eq_true (by simp;omega),za];congr 1;unfold Lib.hasSuffix;rw[Bool.eq_iff_iff,decide_eq_true_eq,List.isSuffixOf_iff_suffix];constructor
 ·rintro⟨t,ht⟩;have:=congrArg List.getLast? ht;simp at this;exact this.symm
 ·rintro rfl;exact⟨l,rfl⟩
def zwm(c:Bool×List UInt8×Nat):Decimal:=Decimal.mk c.1 c.2.1 (c.2.2:Int)
def zlk:Decimal:=Decimal.mk false [] 0
def nrm(neg:Bool)(l:List UInt8)(sc:Int):Decimal×Int:=if 62<(ZL neg (val l*10^(-sc).toNat) sc.toNat).2.1.length∨62<(ZL neg (val l*10^(-sc).toNat) sc.toNat).2.2 then(zlk,14)else(zwm (ZL neg (val l*10^(-sc).toNat) sc.toNat),0)
theorem qK(N:Nat)(neg:Bool)(l:List UInt8)(s:Nat)(b:Decimal):ZH N neg l (s:Int) b=some (if 62<l.length∨62<s then(zlk,14)else(Decimal.mk neg l (s:Int),0)):=by
 unfold ZH j2;rw[zp];by_cases h:62<l.length∨62<s
 ·rw[if_pos h,if_pos (by split<;>omega)];rfl
 ·rw[if_neg h,if_neg (by split<;>omega)]
theorem zdw{v:Nat}(h:v≠0)(k:Nat):dstr v++List.replicate k 48=dstr (v*10^k):=by
 have e:val (dstr v++List.replicate k 48)=v*10^k:=by rw[yw,yg]
 rw[←e,zhz (Digs.append.2 ⟨yz v,Digs.zeros k⟩)];intro c r hc;rcases hd:dstr v with _|⟨x,t⟩
 ·exact absurd (Jv.1 hd) h
 ·rw[hd]at hc;cases hc;exact X1 (l:=dstr v) (by rw[zfA,hd])
theorem Xk(N:Nat)(neg:Bool){l:List UInt8}{s:Int}(b:Decimal)(h1: -2000≤s)(hl:l.length≤2000):
  jY N neg l s b=some (if 62<l.length+(-s).toNat∨62<s.toNat then(zlk,14)else(Decimal.mk neg (l++List.replicate (-s).toNat 48) (s.toNat:Int),0)):=by
 unfold jY;rw[zp];by_cases h:s<0
 ·obtain⟨m,hm⟩:∃m:Nat,-s=m:=⟨(-s).toNat,by omega⟩
  have e1:s.toNat=0:=by omega
  rw[if_pos h,hm,zN (by omega) (by omega),za,ZB (by omega),zl,yv (by simp;omega),za];have:=qK N neg (l++List.replicate m 48) 0 b;rw[e1,Int.toNat_natCast];rw[List.length_append,List.length_replicate]at this;exact this
 ·obtain⟨m,hm⟩:∃m:Nat,s=m:=⟨s.toNat,by omega⟩
  rw[if_neg h];have e2:(-s).toNat=0:=by omega
  rw[e2,List.replicate_zero,List.append_nil,Nat.add_zero,hm,qK,Int.toNat_natCast]
theorem VX(N:Nat)(neg:Bool)(b:Decimal):∀(m n:Nat)(l:List UInt8)(s:Int),s.toNat=m→m<n→Digs l→(∃c r,l=c::r∧c≠48)→l.length≤2000→s≤2000→
  yR N n neg l s b=jY N neg (dstr (zK s.toNat (val l)).1) (if s<0 then s else((zK s.toNat (val l)).2:Int)) b
 |m,0,l,s,hm,hn,_,_,_,_=>by omega
 |m,n+1,l,s,hm,hn,hd,⟨c,r,hcr,hc⟩,hl,hs=>by
  have hself:dstr (val l)=l:=zhz hd fun c' r' h=>by rw[hcr]at h;cases h;exact hc
  show qg N (yR N n) neg l s b=_;unfold qg;rw[zp];by_cases h:0<s
  ·obtain⟨q,rfl⟩:∃q:Nat,s=(q+1:Nat):=⟨(s-1).toNat,by omega⟩
   rcases List.eq_nil_or_concat l with h0|⟨t,x,h0⟩
   ·rw[h0]at hcr;cases hcr
   ·rw[List.concat_eq_append]at h0;subst h0;rw[List.length_append]at hl;simp only[List.length_cons,List.length_nil]at hl;rw[Digs.append,Digs.cons]at hd;have hv:=zcy t x;have hx:=hd.2.1;rw[if_pos h,zaj t x (by omega),zl,zp,Int.toNat_natCast];by_cases hx0:x=48
    ·have ht:∃c r,t=c::r∧c≠48:=by
      cases t with
      |nil=>cases hcr;exact absurd hx0 hc
      |cons c' r'=>cases hcr;exact⟨_,_,rfl,hc⟩
     have e1:(((t++[x]).length:Int)-1)=(t.length:Int):=by simp
     have e2:(((q+1:Nat):Int)-1)=(q:Int):=by omega
     have hin:zO 0 (t.length:Int) (t++[x]).length=true:=by unfold zO;simp;omega
     have e3:Zt (t++[x]) (t.length:Int)=t:=by unfold Zt;simp
     have e4:zK (q+1) (val (t++[x]))=zK q (val t):=by subst hx0;rw[hv,zK,if_pos (by simp)];congr 1;simp
     rw[if_pos hx0,e1,e2,zN (by omega) (by omega),za,hin,za,zN (by omega) (by omega),za,e3,
      VX N neg b q n t (q:Int) (by simp) (by simp at hm;omega) hd.1 ht (by omega) (by omega),e4,Int.toNat_natCast,if_neg (by omega),if_neg (by omega)]
    ·have hx1:x.toNat≠48:=fun e=>hx0 (UInt8.toNat_inj.1 e)
     have e4:zK (q+1) (val (t++[x]))=(val (t++[x]),q+1):=by rw[zK,if_neg (by rw[hv];omega)]
     rw[if_neg hx0,e4,hself,if_neg (by omega)]
  ·rw[if_neg h];have e1:s.toNat=0:=by omega
   rw[e1];simp only[zK,hself];by_cases h2:s<0
   ·rw[if_pos h2]
   ·rw[if_neg h2,show s=((0:Nat):Int)by omega]
theorem qA{N:Nat}(hN:3000<N)(neg:Bool){l:List UInt8}(hd:Digs l)(hl:l.length≤2000){s:Int}(h1: -2000≤s)(h2:s≤2000):jz N neg l s=some (nrm neg l s):=by
 unfold jz;rw[qv,zl,zp];by_cases h0:val l=0
 ·rw[if_pos ((YD hd).2 h0)];unfold nrm;rw[h0,Nat.zero_mul,XR];rfl
 ·have hne:tz l≠[]:=fun e=>h0 ((YD hd).1 e)
  rw[if_neg hne];obtain⟨c,r,hcr⟩:∃c r,tz l=c::r:=by
   rcases htz:tz l with _|⟨c,r⟩
   ·exact absurd htz hne
   ·exact⟨c,r,rfl⟩
  have hlen:=zcA l;rw[VX N neg _ s.toNat N (tz l) s rfl (by omega) hd.tz ⟨c,r,hcr,X1 hcr⟩ (by omega) h2,JG];have hsl:(dstr (zK s.toNat (val l)).1).length≤2000:=by
   have hlt:=jI hd;have hle:(zK s.toNat (val l)).1≤val l:=by have:=(Xx s.toNat (val l)).1;have hp:=pow_pos (s.toNat-(zK s.toNat (val l)).2);rw[this];exact Nat.le_trans (Nat.le_of_eq (Nat.mul_one _).symm) (by rw[←this];exact Nat.le_trans (Nat.mul_le_mul_left _ hp) (Nat.le_of_eq this.symm))
   have:=zdx (v:=(zK s.toNat (val l)).1) (n:=l.length) (by omega);omega
  by_cases hs:s<0
  ·rw[if_pos hs,Xk N neg _ h1 hsl];have e1:s.toNat=0:=by omega
   unfold nrm;rw[e1];have e2:zK 0 (val l)=(val l,0):=rfl;have hv:val l*10^(-s).toNat≠0:=fun e=>by
    rcases Nat.mul_eq_zero.1 e with e|e
    ·exact h0 e
    ·have:=pow_pos (-s).toNat;omega
   have e3:ZL neg (val l*10^(-s).toNat) 0=(neg,dstr (val l)++List.replicate (-s).toNat 48,0):=by unfold ZL;rw[if_neg hv,zdw h0];rfl
   rw[e2,e3];dsimp only;rw[List.length_append,List.length_replicate];rfl
  ·rw[if_neg hs,Xk N neg _ (by omega) hsl];unfold nrm;have e1:(-s).toNat=0:=by omega
   have e3:ZL neg (val l*10^(-s).toNat) s.toNat=(neg,dstr (zK s.toNat (val l)).1,(zK s.toNat (val l)).2):=by rw[e1,Nat.pow_zero,Nat.mul_one];unfold ZL;rw[if_neg h0]
   have e4:(-(((zK s.toNat (val l)).2:Nat):Int)).toNat=0:=by omega
   rw[e3,e4,Int.toNat_natCast,Nat.add_zero,List.replicate_zero,List.append_nil];rfl
def VD(d:Decimal):Prop:=d.Digits≠[]∧Digs d.Digits∧d.Digits.length≤62∧0≤d.Scale∧d.Scale≤62∧nrm d.Neg d.Digits d.Scale=(d,0)
instance(d:Decimal):Decidable (VD d):=by unfold VD;infer_instance
theorem Zr{N:Nat}(hN:3000<N){d:Decimal}(hl:d.Digits.length≤1000):Qq N d=some (if VD d then 0 else 1):=by
 unfold Qq;rw[zkT (by omega),zl,Q5];by_cases h1:d.Digits≠[]∧Digs d.Digits
 ·rw[if_pos h1,zp];by_cases h2:62<(d.Digits.length:Int)
  ·rw[if_pos h2,if_neg (fun h=>by have:=h.2.2.1;omega)]
  ·rw[if_neg h2,zp];by_cases h3:d.Scale<0
   ·rw[if_pos h3,if_neg (fun h=>by have:=h.2.2.2.1;omega)]
   ·rw[if_neg h3,zp];by_cases h4:62<d.Scale
    ·rw[if_pos h4,if_neg (fun h=>by have:=h.2.2.2.2.1;omega)]
    ·rw[if_neg h4,qA hN _ h1.2 (by omega) (by omega) (by omega),zl,Q5];by_cases h5:(nrm d.Neg d.Digits d.Scale).2=0
     ·rw[if_pos h5];have e:(decide ((nrm d.Neg d.Digits d.Scale).1.Neg=d.Neg)&&(decide ((nrm d.Neg d.Digits d.Scale).1.Digits=d.Digits)&&(decide ((nrm d.Neg d.Digits d.Scale).1.Scale=d.Scale)&&true)))=decide ((nrm d.Neg d.Digits d.Scale).1=d):=by rw[Bool.eq_iff_iff];obtain⟨a,b,c⟩:=d;generalize (nrm a b c).1=y;obtain⟨p,q,r⟩:=y;simp
      rw[e,Q5];by_cases h6:(nrm d.Neg d.Digits d.Scale).1=d
      ·rw[if_pos h6,if_pos ⟨h1.1,h1.2,by omega,by omega,by omega,Prod.ext h6 h5⟩]
      ·rw[if_neg h6,if_neg (fun h=>h6 (by rw[h.2.2.2.2.2]))]
     ·rw[if_neg h5,if_neg (fun h=>h5 (by rw[h.2.2.2.2.2]))]
 ·rw[if_neg h1,if_neg (fun h=>h1 ⟨h.1,h.2.1⟩)]
theorem VD.form{d:Decimal}(h:VD d):zwm (ZL d.Neg (val d.Digits) d.Scale.toNat)=d:=by
 obtain⟨_,_,_,h4,_,h6⟩:=h;unfold nrm at h6;have e:(-d.Scale).toNat=0:=by omega
 rw[e,Nat.pow_zero,Nat.mul_one]at h6;split at h6
 ·cases h6
 ·exact congrArg Prod.fst h6
end Go.Proofs.C06
end
section
namespace Go.Dg
open Go
theorem zsb{n:Int}(h0:0≤n)(h1:n<256):IntKind.wrap .u8 n=n:=by have e:(2^IntKind.bits .u8:Int)=256:=rfl;unfold IntKind.wrap;rw[e];simp only[show IntKind.signed .u8=false from rfl,Bool.false_and,Bool.false_eq_true,if_false];omega
theorem wrap_u64(n:Int):IntKind.wrap .u64 n=n%18446744073709551616:=by have e:(2^IntKind.bits .u64:Int)=18446744073709551616:=rfl;unfold IntKind.wrap;rw[e];simp only[show IntKind.signed .u64=false from rfl,Bool.false_and,Bool.false_eq_true,if_false]
theorem wrap_i64(n:Int):IntKind.wrap .i64 n=if 9223372036854775808≤n%18446744073709551616 then n%18446744073709551616-18446744073709551616 else n%18446744073709551616:=by have e:(2^IntKind.bits .i64:Int)=18446744073709551616:=rfl;have e2:(2^(IntKind.bits .i64-1):Int)=9223372036854775808:=rfl;unfold IntKind.wrap;rw[e,e2];simp only[show IntKind.signed .i64=true from rfl,Bool.true_and,decide_eq_true_eq,ge_iff_le]
end Go.Dg
end
section
set_option maxRecDepth 100000
namespace Go.Proofs.C06
open Go Go.RowKit Go.Vc Go.Am Go.Dg
theorem z7{i n:Nat}(h:i<n):inIx (i:Int) n=true:=zU.2 ⟨by omega,by omega⟩
theorem JB(s:List UInt8)(i:Nat):byteAt s (i:Int)=((s.getD i 0).toNat:Int):=rfl
theorem ziP{n:Int}(h0:0≤n)(h:n≤255):inKb .u8 n=true:=Jq.2 ⟨h0,h⟩
theorem QC{c:Nat}:toByte (c:Int)=UInt8.ofNat c:=rfl
theorem zrv{l:List UInt8}{i:Nat}(h:i<l.length):l.getD i 0∈l:=by rw[List.getD_eq_getElem?_getD,List.getElem?_eq_getElem h];exact List.getElem_mem h
theorem Zo{l:List UInt8}(hd:Digs l){i:Nat}(h:i<l.length):48≤(l.getD i 0).toNat∧(l.getD i 0).toNat≤57:=hd _ (zrv h)
def zxE:List UInt8:=[123,65,66,67,68,69,70,71,72,73]
def zw6:List UInt8:=[125,74,75,76,77,78,79,80,81,82]
def letC(ng:Bool)(c:UInt8):UInt8:=(if ng then zw6 else zxE).getD (c.toNat-48) 0
def sgnAt(ld:Bool)(n:Nat):Nat:=if ld then 0 else n-1
def wZ(sg ld ng:Bool)(n:Nat)(s:List UInt8):List UInt8:=if sg then s.set (sgnAt ld n) (letC ng (s.getD (sgnAt ld n) 0))else s
theorem jH{n:Int}(h0:0≤n)(h1:n<256):IntKind.wrap .u8 n=n:=zsb h0 h1
def wS(ld ng:Bool)(s:List UInt8):List UInt8:=if ld then(if ng then 45 else 43)::s else s++[if ng then 45 else 43]
end Go.Proofs.C06
end
section
set_option maxRecDepth 100000
namespace Go.Proofs.C06
open Go Go.RowKit Go.Vc Go.Am Go.Dg
def zq6(sg:Bool)(l:UInt8):Prop:=if sg then l.toNat=12∨l.toNat=13 else l.toNat=15
instance(sg:Bool)(l:UInt8):Decidable (zq6 sg l):=by unfold zq6;infer_instance
def pk(l:UInt8):List UInt8→List UInt8
 |[]=>[]
 |[a]=>[UInt8.ofNat (16*(a.toNat-48)+l.toNat)]
 |a::c::r=>UInt8.ofNat (16*(a.toNat-48)+(c.toNat-48))::pk l r
def odd(s:List UInt8):List UInt8:=if s.length%2=0 then 48::s else s
def wP(sg ng:Bool)(s:List UInt8):List UInt8:=pk (if sg then(if ng then 13 else 12)else 15) (odd s)
end Go.Proofs.C06
end
section
set_option maxRecDepth 100000
namespace Go.Proofs.C06
open Go Go.RowKit Go.Vc Go.Am Go.Dg
def be:Nat→Nat→List UInt8
 |0,_=>[]
 |k+1,v=>be k (v/256)++[UInt8.ofNat (v%256)]
def wB(k:Nat)(ng:Bool)(s:List UInt8):List UInt8:=be k (if ng then(18446744073709551616-val s)%18446744073709551616 else val s)
def zyj(n:Nat):Nat:=if n≤4 then 2 else if n≤9 then 4 else 8
end Go.Proofs.C06
end
section
set_option maxRecDepth 100000
namespace Go.Proofs.C06
open Go Go.RowKit Go.Vc Go.Am Go.Dg
def quo(v S:Nat)(s:Int):Nat:=v*10^(s-(S:Int)).toNat/10^((S:Int)-s).toNat
def exact(v S:Nat)(s:Int):Prop:=v%10^((S:Int)-s).toNat=0
instance(v S:Nat)(s:Int):Decidable (exact v S s):=by unfold exact;infer_instance
def zwj(d:Decimal)(n:Nat)(s:Int):Prop:=exact (val d.Digits) d.Scale.toNat s∧quo (val d.Digits) d.Scale.toNat s<10^n
instance(d:Decimal)(n:Nat)(s:Int):Decidable (zwj d n s):=by unfold zwj;infer_instance
end Go.Proofs.C06
end
