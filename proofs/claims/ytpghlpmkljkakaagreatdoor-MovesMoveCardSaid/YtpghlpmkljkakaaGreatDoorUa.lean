/-
  A part of the proof of the laws on moves.
-/
import Derived.Lib.SlTrimSet
import Derived.Lib.Strings
import Derived.Laws.Entries
import Derived.Test.YtpghlpmkljkakaaGreatDoorS2
import Derived.Test.YtpghlpmkljkakaaGreatDoorPa
import Derived.Test.YtpghlpmkljkakaaGreatDoorS4
import Derived.Test.YtpghlpmkljkakaaGreatDoorS5c
section
namespace Go.Dg
def Digs(l:List UInt8):Prop:=∀c∈l,48≤c.toNat∧c.toNat≤57
instance(l:List UInt8):Decidable (Digs l):=by unfold Digs;infer_instance
theorem Digs.nil:Digs []:=by simp[Digs]
theorem Digs.cons{c:UInt8}{l:List UInt8}:Digs (c::l)↔(48≤c.toNat∧c.toNat≤57)∧Digs l:=by simp[Digs]
theorem Digs.append{a b:List UInt8}:Digs (a++b)↔Digs a∧Digs b:=by
 unfold Digs;constructor
 ·intro h;exact⟨fun c hc=>h c (List.mem_append_left _ hc),fun c hc=>h c (List.mem_append_right _ hc)⟩
 ·rintro⟨h1,h2⟩ c hc;rcases List.mem_append.1 hc with h|h
  ·exact h1 c h
  ·exact h2 c h
theorem Digs.take{l:List UInt8}(h:Digs l)(n:Nat):Digs (l.take n):=fun c hc=>h c (List.mem_of_mem_take hc)
theorem Digs.drop{l:List UInt8}(h:Digs l)(n:Nat):Digs (l.drop n):=fun c hc=>h c (List.mem_of_mem_drop hc)
theorem Digs.zeros(n:Nat):Digs (List.replicate n 48):=fun c hc=>by rw[(List.mem_replicate.1 hc).2];decide
theorem Digs.nines(n:Nat):Digs (List.replicate n 57):=fun c hc=>by rw[(List.mem_replicate.1 hc).2];decide
def val(l:List UInt8):Nat:=l.foldl (fun a c=>10*a+(c.toNat-48)) 0
theorem K8:∀(l:List UInt8)(a:Nat),l.foldl (fun a c=>10*a+(c.toNat-48)) a=a*10^l.length+val l
 |[],a=>by simp[val]
 |c::l,a=>by
  have h1:=K8 l (10*a+(c.toNat-48));have h2:=K8 l (10*0+(c.toNat-48));have h3:val (c::l)=l.foldl (fun a c=>10*a+(c.toNat-48)) (10*0+(c.toNat-48)):=rfl;rw[List.foldl_cons,h1,h3,h2,List.length_cons,Nat.pow_succ,Nat.add_mul,Nat.add_mul];have e:10*a*10^l.length=a*(10^l.length*10):=by rw[Nat.mul_comm 10 a,Nat.mul_assoc,Nat.mul_comm 10]
  omega
theorem zhK:val []=0:=rfl
theorem qi(c:UInt8)(l:List UInt8):val (c::l)=(c.toNat-48)*10^l.length+val l:=by have:=K8 l (10*0+(c.toNat-48));have h3:val (c::l)=l.foldl (fun a c=>10*a+(c.toNat-48)) (10*0+(c.toNat-48)):=rfl;rw[h3,this,Nat.mul_zero,Nat.zero_add]
theorem Qi(a b:List UInt8):val (a++b)=val a*10^b.length+val b:=by
 have:val (a++b)=b.foldl (fun a c=>10*a+(c.toNat-48)) (val a):=by unfold val;rw[List.foldl_append]
 rw[this,K8]
theorem Z6(l:List UInt8)(c:UInt8):val (l++[c])=10*val l+(c.toNat-48):=by rw[Qi,qi,zhK];simp;omega
theorem pow_pos(n:Nat):0<10^n:=Nat.pow_pos (by decide)
theorem js:∀{l:List UInt8},Digs l→val l<10^l.length
 |[],_=>by simp[val]
 |c::l,h=>by rw[Digs.cons]at h;have ih:=js h.2;rw[qi,List.length_cons,Nat.pow_succ];have:(c.toNat-48)*10^l.length≤9*10^l.length:=Nat.mul_le_mul_right _ (by omega);omega
theorem Yo:∀n,val (List.replicate n 48)=0
 |0=>rfl
 |n+1=>by rw[List.replicate_succ,qi,Yo n];simp
theorem qM(n:Nat)(l:List UInt8):val (List.replicate n 48++l)=val l:=by rw[Qi,Yo];simp
theorem yv(l:List UInt8)(n:Nat):val (l++List.replicate n 48)=val l*10^n:=by rw[Qi,Yo,List.length_replicate];simp
theorem zdV{l:List UInt8}(h:Digs l)(h0:val l=0):∀c∈l,c=48:=by
 induction l with
 |nil=>simp
 |cons c l ih=>
  rw[Digs.cons]at h;rw[qi]at h0;have hp:=pow_pos l.length;have h1:(c.toNat-48)*10^l.length=0:=by omega
  have h2:c.toNat-48=0:=by
   rcases Nat.mul_eq_zero.1 h1 with h|h
   ·exact h
   ·omega
  intro x hx;rcases List.mem_cons.1 hx with rfl|hx
  ·apply UInt8.toNat_inj.1;show x.toNat=48;omega
  ·exact ih h.2 (by omega) x hx
theorem zqd{l:List UInt8}(h:∀c∈l,c=48):val l=0:=by rw[List.eq_replicate_of_mem h,Yo]
theorem zqv{a b x y P:Nat}(hx:x<P)(hy:y<P)(h:a*P+x=b*P+y):a=b∧x=y:=by
 have h1:a=b:=by
  rcases Nat.lt_trichotomy a b with h'|h'|h'
  ·have:=Nat.mul_le_mul_right P (show a+1≤b from h');rw[Nat.succ_mul]at this;omega
  ·exact h'
  ·have:=Nat.mul_le_mul_right P (show b+1≤a from h');rw[Nat.succ_mul]at this;omega
 subst h1;exact⟨rfl,by omega⟩
theorem zhL:∀{a b:List UInt8},Digs a→Digs b→a.length=b.length→val a=val b→a=b
 |[],[],_,_,_,_=>rfl
 |[],_::_,_,_,h,_=>by simp at h
 |_::_,[],_,_,h,_=>by simp at h
 |x::a,y::b,ha,hb,hl,h=>by
  rw[Digs.cons]at ha hb;simp only[List.length_cons,Nat.add_right_cancel_iff]at hl;rw[qi,qi,hl]at h;have h1:=js ha.2;rw[hl]at h1;obtain⟨e1,e2⟩:=zqv h1 (js hb.2) h;rw[zhL ha.2 hb.2 hl e2];have:x.toNat=y.toNat:=by omega
  rw[UInt8.toNat_inj.1 this]
theorem jl{l:List UInt8}(h:Digs l){m:Nat}(hm:m≤l.length):val (l.take (l.length-m))=val l/10^m∧val (l.drop (l.length-m))=val l%10^m:=by
 have e:val l=val (l.take (l.length-m))*10^m+val (l.drop (l.length-m)):=by have:=Qi (l.take (l.length-m)) (l.drop (l.length-m));rw[List.take_append_drop,List.length_drop]at this;rw[this];congr 3;omega
 have hlt:val (l.drop (l.length-m))<10^m:=by have:=js (h.drop (l.length-m));rw[List.length_drop]at this;rwa [show l.length-(l.length-m)=m by omega]at this
 have hp:=pow_pos m;constructor
 ·rw[e,Nat.mul_comm,Nat.mul_add_div hp,Nat.div_eq_of_lt hlt,Nat.add_zero]
 ·rw[e,Nat.mul_comm,Nat.mul_add_mod,Nat.mod_eq_of_lt hlt]
def fmt:Nat→Nat→List UInt8
 |0,_=>[]
 |n+1,v=>fmt n (v/10)++[UInt8.ofNat (48+v%10)]
theorem je:∀n v,(fmt n v).length=n
 |0,_=>rfl
 |n+1,v=>by rw[fmt,List.length_append,je n];rfl
theorem zb8{d:Nat}(h:d<10):(UInt8.ofNat (48+d)).toNat=48+d:=by rw[UInt8.toNat_ofNat'];omega
theorem yI:∀n v,Digs (fmt n v)
 |0,_=>Digs.nil
 |n+1,v=>by rw[fmt,Digs.append,Digs.cons];refine⟨yI n _,?_,Digs.nil⟩;rw[zb8 (Nat.mod_lt _ (by decide))];omega
theorem KM:∀n v,v<10^n→val (fmt n v)=v
 |0,v,h=>by
  have:v=0:=by simpa using h
  rw[this];rfl
 |n+1,v,h=>by rw[fmt,Z6,KM n (v/10) (by rw[Nat.pow_succ]at h;omega),zb8 (Nat.mod_lt _ (by decide))];omega
theorem zom{l:List UInt8}(h:Digs l):fmt l.length (val l)=l:=
 zhL (yI _ _) h (je _ _) (KM _ _ (js h))
theorem zrq{l:List UInt8}{n v:Nat}(h:Digs l)(hl:l.length=n)(hv:val l=v):l=fmt n v:=by subst hl hv;exact (zom h).symm
def tz(l:List UInt8):List UInt8:=l.dropWhile (· ==48)
theorem zdl(c:UInt8)(l:List UInt8):tz (c::l)=if c=48 then tz l else c::l:=by unfold tz;rw[List.dropWhile_cons];by_cases h:c=48<;>simp[h]
theorem zsr(l:List UInt8):Lib.trimLeftS l [48]=tz l:=by unfold Lib.trimLeftS tz;congr 1;funext c;by_cases h:c=48<;>simp[h]
theorem XC:∀l,val (tz l)=val l
 |[]=>rfl
 |c::l=>by
  rw[zdl];split
  ·rename_i h;subst h;rw[XC l,qi];simp
  ·rfl
theorem Digs.tz{l:List UInt8}(h:Digs l):Digs (tz l):=fun c hc=>h c ((List.dropWhile_sublist _).subset hc)
theorem ztT(l:List UInt8):(tz l).length≤l.length:=(List.dropWhile_sublist _).length_le
theorem zdk{l:List UInt8}{c:UInt8}{r:List UInt8}(h:tz l=c::r):c≠48:=by
 induction l with
 |nil=>cases h
 |cons x l ih=>
  rw[zdl]at h;split at h
  ·exact ih h
  ·rename_i hx;cases h;exact hx
theorem Wb{l:List UInt8}(h:Digs l):tz l=[]↔val l=0:=by
 constructor
 ·intro e;rw[←XC,e];rfl
 ·intro e;rcases hl:tz l with _|⟨c,r⟩
  ·rfl
  ·have:=zdV h.tz (by rw[XC];exact e) c (by rw[hl];simp);exact absurd this (zdk hl)
theorem zbu{l:List UInt8}(h:Digs l)(h0:val l≠0):10^((tz l).length-1)≤val l∧val l<10^(tz l).length∧1≤(tz l).length:=by
 have hd:=h.tz;have e:=XC l;rcases hl:tz l with _|⟨c,r⟩
 ·exact absurd ((Wb h).1 hl) h0
 ·have hc:=zdk hl;rw[hl]at hd e;refine⟨?_,by rw[←e];exact js hd,by simp⟩;rw[←e,qi,List.length_cons,Nat.add_sub_cancel];rw[Digs.cons]at hd;have h1:1≤c.toNat-48:=by
   have:c.toNat≠48:=fun h=>hc (UInt8.toNat_inj.1 h)
   omega
  have:=Nat.mul_le_mul_right (10^r.length) h1;omega
theorem zuQ{a b:List UInt8}(ha:Digs a)(hb:Digs b)(h:val a=val b):tz a=tz b:=by
 by_cases h0:val a=0
 ·rw[(Wb ha).2 h0,(Wb hb).2 (h▸h0)]
 ·obtain⟨a1,a2,a3⟩:=zbu ha h0;obtain⟨b1,b2,b3⟩:=zbu hb (h▸h0);refine zhL ha.tz hb.tz ?_ (by rw[XC,XC,h]);rcases Nat.lt_trichotomy (tz a).length (tz b).length with hl|hl|hl
  ·have:=Nat.pow_le_pow_right (show 0<10 by decide) (show(tz a).length≤(tz b).length-1 by omega);omega
  ·exact hl
  ·have:=Nat.pow_le_pow_right (show 0<10 by decide) (show(tz b).length≤(tz a).length-1 by omega);omega
def dstr(v:Nat):List UInt8:=tz (fmt v v)
theorem XU(v:Nat):v<10^v:=Nat.lt_pow_self (by decide)
theorem Y3(v:Nat):Digs (dstr v):=(yI v v).tz
theorem Z7(v:Nat):val (dstr v)=v:=by unfold dstr;rw[XC,KM v v (XU v)]
theorem zld{l:List UInt8}(h:Digs l):dstr (val l)=tz l:=
 zuQ (yI _ _) h (KM _ _ (XU _))
theorem zhV(v:Nat):tz (dstr v)=dstr v:=by have:=zld (Y3 v);rw[Z7]at this;exact this.symm
theorem zfn{v:Nat}:dstr v=[]↔v=0:=by rw[←zhV,Wb (Y3 v),Z7]
theorem ziZ{l:List UInt8}(h:Digs l)(h0:∀c r,l=c::r→c≠48):dstr (val l)=l:=by
 rw[zld h];cases l with
 |nil=>rfl
 |cons c r=>rw[zdl,if_neg (h0 c r rfl)]
theorem zlg{v:Nat}(h:v≠0):10^((dstr v).length-1)≤v∧v<10^(dstr v).length∧1≤(dstr v).length:=by have:=zbu (Y3 v) (by rw[Z7];exact h);rwa [Z7,zhV]at this
theorem zlf{v n:Nat}(h:v<10^n):(dstr v).length≤n:=by
 by_cases h0:v=0
 ·subst h0;rw[zfn.2 rfl];simp
 ·obtain⟨h1,_,h3⟩:=zlg h0;rcases Nat.lt_or_ge n (dstr v).length with hl|hl
  ·have:=Nat.pow_le_pow_right (show 0<10 by decide) (show n≤(dstr v).length-1 by omega);omega
  ·exact hl
end Go.Dg
end
section
namespace Go.Dg
def zD:Nat→Nat→Nat×Nat
 |0,v=>(v,0)
 |s+1,v=>if v%10=0 then zD s (v/10)else(v,s+1)
theorem yP:∀(s v:Nat),v=(zD s v).1*10^(s-(zD s v).2)∧(zD s v).2≤s∧((zD s v).2=0∨(zD s v).1%10≠0)
 |0,v=>⟨by simp[zD],Nat.le_refl _,.inl rfl⟩
 |s+1,v=>by
  by_cases h:v%10=0
  ·have e:zD (s+1) v=zD s (v/10):=by rw[zD,if_pos h]
   obtain⟨h1,h2,h3⟩:=yP s (v/10);rw[e];refine⟨?_,by omega,h3⟩;rw[show s+1-(zD s (v/10)).2=(s-(zD s (v/10)).2)+1 by omega,Nat.pow_succ,←Nat.mul_assoc,←h1];omega
  ·have e:zD (s+1) v=(v,s+1):=by rw[zD,if_neg h]
   rw[e];exact⟨by simp,Nat.le_refl _,.inr h⟩
theorem zjN{s v:Nat}(h:v≠0):(zD s v).1≠0:=fun e=>by have:=(yP s v).1;rw[e]at this;simp at this;exact h this
def canon(neg:Bool)(v s:Nat):Bool×List UInt8×Nat:=if v=0 then(false,[48],0)else(neg,dstr (zD s v).1,(zD s v).2)
theorem jY(neg:Bool)(s:Nat):canon neg 0 s=(false,[48],0):=by unfold canon;rw[if_pos rfl]
theorem zhu{neg neg':Bool}{v s:Nat}(h:v≠0→neg=neg'):canon neg v s=canon neg' v s:=by
 by_cases h0:v=0
 ·subst h0;rw[jY,jY]
 ·rw[h h0]
theorem Vi(neg:Bool)(v s:Nat):val (canon neg v s).2.1*10^s=v*10^(canon neg v s).2.2:=by
 unfold canon;split
 ·rename_i h;subst h;simp[val]
 ·obtain⟨h1,h2,_⟩:=yP s v;dsimp only;rw[Z7];have:10^s=10^(s-(zD s v).2)*10^(zD s v).2:=by rw[←Nat.pow_add];congr 1;omega
  rw[this,←Nat.mul_assoc,←h1]
theorem zB(neg:Bool)(v s:Nat):(canon neg v s).2.2≤s:=by
 unfold canon;split
 ·exact Nat.zero_le _
 ·exact (yP s v).2.1
theorem zfw(neg:Bool)(v s:Nat):Digs (canon neg v s).2.1:=by
 unfold canon;split
 ·decide
 ·exact Y3 _
theorem zr5(neg:Bool)(v s:Nat):(canon neg v s).2.1≠[]:=by
 unfold canon;split
 ·simp
 ·rename_i h;rw[Ne,zfn];exact zjN h
theorem zft(neg:Bool)(v s:Nat):val (canon neg v s).2.1=0↔v=0:=by
 have h:=Vi neg v s;have p1:=pow_pos s;have p2:=pow_pos (canon neg v s).2.2;constructor
 ·intro e;rw[e,Nat.zero_mul]at h;rcases Nat.mul_eq_zero.1 h.symm with h|h
  ·exact h
  ·omega
 ·intro e;subst e;rw[jY];rfl
theorem zfu(neg:Bool)(v s:Nat):(canon neg v s).1=(neg&&decide (v≠0)):=by
 unfold canon;split
 ·rename_i h;simp[h]
 ·rename_i h;simp[h]
theorem zoV{s v:Nat}(h:s=0∨v%10≠0):zD s v=(v,s):=by
 cases s with
 |zero=>rfl
 |succ s=>rw[zD,if_neg (by rcases h with h|h;cases h;exact h)]
theorem zlx(neg:Bool)(v s:Nat):canon (canon neg v s).1 (val (canon neg v s).2.1) (canon neg v s).2.2=canon neg v s:=by
 by_cases h0:v=0
 ·subst h0;rw[jY];rfl
 ·have e:canon neg v s=(neg,dstr (zD s v).1,(zD s v).2):=by unfold canon;rw[if_neg h0]
  obtain⟨_,_,h3⟩:=yP s v;rw[e];dsimp only;rw[Z7];unfold canon;rw[if_neg (zjN h0),zoV h3]
end Go.Dg
end
section
namespace Go.Dg
open Go
theorem zjp(k:IntKind)(n:Int):k.wrap n=k.wrap (n% (2^k.bits:Int)):=by unfold IntKind.wrap;simp only[Int.emod_emod_of_dvd _ (Int.dvd_refl _)]
theorem zlW{k:IntKind}{m n:Int}(h:m% (2^k.bits:Int)=n% (2^k.bits:Int)):k.wrap m=k.wrap n:=by rw[zjp,h,←zjp]
theorem znH{n:Int}(h0:0≤n)(h1:n<256):IntKind.wrap .u8 n=n:=by have e:(2^IntKind.bits .u8:Int)=256:=rfl;unfold IntKind.wrap;rw[e];simp only[show IntKind.signed .u8=false from rfl,Bool.false_and,Bool.false_eq_true,if_false];omega
theorem wrap_u64(n:Int):IntKind.wrap .u64 n=n%18446744073709551616:=by have e:(2^IntKind.bits .u64:Int)=18446744073709551616:=rfl;unfold IntKind.wrap;rw[e];simp only[show IntKind.signed .u64=false from rfl,Bool.false_and,Bool.false_eq_true,if_false]
theorem WY(n:Int):IntKind.wrap .u8 n=n%256:=by have e:(2^IntKind.bits .u8:Int)=256:=rfl;unfold IntKind.wrap;rw[e];simp only[show IntKind.signed .u8=false from rfl,Bool.false_and,Bool.false_eq_true,if_false]
theorem wrap_i64(n:Int):IntKind.wrap .i64 n=if 9223372036854775808≤n%18446744073709551616 then n%18446744073709551616-18446744073709551616 else n%18446744073709551616:=by have e:(2^IntKind.bits .i64:Int)=18446744073709551616:=rfl;have e2:(2^(IntKind.bits .i64-1):Int)=9223372036854775808:=rfl;unfold IntKind.wrap;rw[e,e2];simp only[show IntKind.signed .i64=true from rfl,Bool.true_and,decide_eq_true_eq,ge_iff_le]
theorem zjq{n:Int}(h0: -9223372036854775808≤n)(h1:n<9223372036854775808):IntKind.wrap .i64 n=n:=by rw[wrap_i64];split<;>omega
theorem Zi(w:Nat)(x:Int):((BitVec.ofInt w x).toNat:Int)=x% (2^w:Int):=by
 rw[BitVec.toNat_ofInt,Int.toNat_of_nonneg]
 ·norm_cast
 ·exact Int.emod_nonneg _ (by have:=Nat.two_pow_pos w;omega)
theorem ZN{k:IntKind}{x:Int}{m:Nat}(hm:m≤k.bits):bits .and k x ((2^m-1:Nat):Int)=k.wrap (x% ((2^m:Nat):Int)):=by
 have h2:(BitVec.ofInt k.bits ((2^m-1:Nat):Int)).toNat=2^m-1:=by
  have h:=Zi k.bits ((2^m-1:Nat):Int);have hle:(2:Nat)^m≤2^k.bits:=Nat.pow_le_pow_right (by decide) hm;have hp:=Nat.two_pow_pos m;have hc:(2^k.bits:Int)=((2^k.bits:Nat):Int):=by norm_cast
  rw[hc,Int.emod_eq_of_lt (by omega) (by omega)]at h;omega
 unfold bits;simp only[BitVec.toNat_and,h2,Nat.and_two_pow_sub_one_eq_mod];congr 1;rw[Int.natCast_emod,Zi];refine Int.emod_emod_of_dvd _ ?_;have:=Nat.pow_dvd_pow 2 hm;have hc:(2^k.bits:Int)=((2^k.bits:Nat):Int):=by norm_cast
 rw[hc];exact Int.natCast_dvd_natCast.2 this
theorem zcT{k:IntKind}{a x:Int}{m:Nat}(hm:m≤k.bits)(ha:a% ((2^m:Nat):Int)=0)(h0:0≤x)(hx:x<((2^m:Nat):Int)):bits .or k a x=k.wrap (a+x):=by
 have hc:(2^k.bits:Int)=((2^k.bits:Nat):Int):=by norm_cast
 have hle:(2:Nat)^m≤2^k.bits:=Nat.pow_le_pow_right (by decide) hm;obtain⟨A,hA⟩:∃A:Nat,(BitVec.ofInt k.bits a).toNat=A*2^m:=by
  have h:=Zi k.bits a;have hd:((2^m:Nat):Int)∣((BitVec.ofInt k.bits a).toNat:Int):=by apply Int.dvd_of_emod_eq_zero;rw[h,hc,Int.emod_emod_of_dvd _ (Int.natCast_dvd_natCast.2 (Nat.pow_dvd_pow 2 hm))];exact ha
  obtain⟨q,hq⟩:=Int.natCast_dvd_natCast.1 hd;exact⟨q,by rw[hq,Nat.mul_comm]⟩
 obtain⟨y,rfl⟩:∃y:Nat,x=y:=⟨x.toNat,by omega⟩
 have hy:y<2^m:=by omega
 have hX:(BitVec.ofInt k.bits (y:Int)).toNat=y:=by have h:=Zi k.bits (y:Int);rw[hc,Int.emod_eq_of_lt (by omega) (by omega)]at h;omega
 unfold bits;simp only[BitVec.toNat_or,hX];have hor:(BitVec.ofInt k.bits a).toNat|||y=(BitVec.ofInt k.bits a).toNat+y:=by rw[hA,←Nat.shiftLeft_eq,Nat.shiftLeft_add_eq_or_of_lt hy]
 rw[hor];apply zlW;rw[Int.natCast_add,Zi,Int.emod_add_emod]
theorem ztM{x:Int}:bits .and .u8 x 15=x%16:=by have:=ZN (k:=.u8) (x:=x) (m:=4) (by decide);rw[show((2^4-1:Nat):Int)=15 from rfl,show((2^4:Nat):Int)=16 from rfl,znH (by omega) (by omega)]at this;exact this
theorem zuG{x:Int}:bits .and .i64 x 255=x%256:=by have:=ZN (k:=.i64) (x:=x) (m:=8) (by decide);rw[show((2^8-1:Nat):Int)=255 from rfl,show((2^8:Nat):Int)=256 from rfl,zjq (by omega) (by omega)]at this;exact this
theorem zu1{a x:Int}(ha:a%16=0)(h0:0≤x)(hx:x<16):bits .or .u8 a x=(a+x)%256:=by have:=zcT (k:=.u8) (a:=a) (x:=x) (m:=4) (by decide) (by simpa using ha) h0 (by simpa using hx);rw[this,WY]
theorem zt6{a x:Int}(ha:a%256=0)(h0:0≤x)(hx:x<256):bits .or .u64 a x=(a+x)%18446744073709551616:=by have:=zcT (k:=.u64) (a:=a) (x:=x) (m:=8) (by decide) (by simpa using ha) h0 (by simpa using hx);rw[this,wrap_u64]
end Go.Dg
end
section
set_option maxRecDepth 100000
namespace Go.Proofs.C06
open Go Go.RowKit Go.Vc Go.Am Go.Dg
theorem zN{a b:List UInt8}(h:a.length+b.length≤1000000):zJ a b=true:=by rw[Y8];omega
theorem Kh{p:UInt8→Bool}:∀{l:List UInt8}{c:UInt8}{r:List UInt8},l.dropWhile p=c::r→p c=false
 |[],_,_,h=>by cases h
 |x::l,c,r,h=>by
  rw[List.dropWhile_cons]at h;split at h
  ·exact Kh h
  ·rename_i hx;cases h;simpa using hx
theorem Yk{p:UInt8→Bool}:∀{l:List UInt8},l.dropWhile p=[]↔∀c∈l,p c=true
 |[]=>by simp
 |x::l=>by
  rw[List.dropWhile_cons];split
  ·rename_i h;rw[Yk];simp[h]
  ·rename_i h;simp[h]
theorem zbw(s cs:List UInt8):Lib.trimS s cs=[]↔∀c∈s,cs.contains c=true:=by
 unfold Lib.trimS Lib.trimLeftS Lib.trimRightS;rw[Yk];constructor
 ·intro h;have h2:s.reverse.dropWhile (cs.contains ·)=[]:=by
   rcases hr:s.reverse.dropWhile (cs.contains ·)with _|⟨c,r⟩
   ·rfl
   ·have h1:=Kh hr;have:=h c (by rw[hr];simp);rw[this]at h1;cases h1
  rw[Yk]at h2;exact fun c hc=>h2 c (by simpa using hc)
 ·intro h c hc;have hc:c∈s.reverse.dropWhile (cs.contains ·):=by simpa using hc
  have:=(List.dropWhile_sublist _).subset hc;exact h c (by simpa using this)
theorem Vf(c:UInt8):([48,49,50,51,52,53,54,55,56,57]:List UInt8).contains c=true↔48≤c.toNat∧c.toNat≤57:=by
 constructor
 ·intro h;simp only[List.contains_cons,List.contains_nil,Bool.or_false,Bool.or_eq_true,beq_iff_eq]at h;rcases h with rfl|rfl|rfl|rfl|rfl|rfl|rfl|rfl|rfl|rfl<;>decide
 ·rintro⟨h1,h2⟩;have:∀m:Fin 256,48≤m.val→m.val≤57→([48,49,50,51,52,53,54,55,56,57]:List UInt8).contains (UInt8.ofNat m.val)=true:=by decide
  have h:=this ⟨c.toNat,UInt8.toNat_lt c⟩ h1 h2;simpa using h
theorem zaD{s cs:List UInt8}(hs:s.length≤1000000)(hc:cs.length≤1000)(ha:Kv cs=true):Zp s cs=some (Lib.trimS s cs):=by unfold Zp;rw[decide_eq_true (show s.length≤9223372036854775807 by omega),decide_eq_true (show cs.length<4294967281 by omega),ha];rfl
theorem zfq{N:Nat}{s:List UInt8}(hs:s.length≤1000000):za4 N s=some (decide (s≠[]∧Digs s)):=by
 unfold za4;rw[zf];by_cases h:s=[]
 ·rw[if_pos h];simp[h]
 ·rw[if_neg h,zaD hs (by decide) (by decide),zc];congr 1;rw[Bool.eq_iff_iff];simp only[decide_eq_true_eq];rw[zbw];constructor
  ·intro k;exact⟨h,fun c hc=>(Vf c).1 (k c hc)⟩
  ·rintro⟨_,k⟩ c hc;exact (Vf c).2 (k c hc)
theorem zmI{s:List UInt8}:ZW s [48]=some (tz s):=by unfold ZW;rw[zsr];rfl
theorem zqp{s:List UInt8}(hs:s.length≤1000000)(hd:Digs s):∃t,Zp s [48]=some t∧(t=[]↔val s=0):=by
 refine⟨_,zaD hs (by decide) (by decide),?_⟩;rw[zbw];constructor
 ·intro h;exact zqd fun c hc=>by simpa using h c hc
 ·intro h c hc;rw[zdV hd h c hc];decide
theorem zaH{m:Nat}(hm:m≤100000):jJ [48] (m:Int)=some (List.replicate m 48):=by
 have e:Lib.repeatL [48] m=List.replicate m 48:=by
  induction m with
  |zero=>rfl
  |succ m ih=>rw[Lib.repeatL,ih (by omega),List.replicate_succ];rfl
 unfold jJ;simp only[Int.toNat_natCast,List.length_cons,List.length_nil];rw[decide_eq_true (show(0:Int)≤(m:Int)by omega),decide_eq_true (show(m:Int)≤9223372036854775807 by omega),decide_eq_true (by omega),e];rfl
theorem zkF(l:List UInt8)(c:UInt8)(hl:l.length≤1000000):QB (l++[c]) [48]=some (decide (c=48)):=by
 unfold QB;rw[decide_eq_true (by simp;omega),za];congr 1;unfold Lib.hasSuffix;rw[Bool.eq_iff_iff,decide_eq_true_eq,List.isSuffixOf_iff_suffix];constructor
 ·rintro⟨t,ht⟩;have:=congrArg List.getLast? ht;simp at this;exact this.symm
 ·rintro rfl;exact⟨l,rfl⟩
def jI(c:Bool×List UInt8×Nat):Decimal:=Decimal.mk c.1 c.2.1 (c.2.2:Int)
def zdI:Decimal:=Decimal.mk false [] 0
def nrm(neg:Bool)(l:List UInt8)(sc:Int):Decimal×Int:=if 62<(canon neg (val l*10^(-sc).toNat) sc.toNat).2.1.length∨62<(canon neg (val l*10^(-sc).toNat) sc.toNat).2.2 then(zdI,14)else(jI (canon neg (val l*10^(-sc).toNat) sc.toNat),0)
theorem VU(N:Nat)(neg:Bool)(l:List UInt8)(s:Nat)(b:Decimal):JE N neg l (s:Int) b=some (if 62<l.length∨62<s then(zdI,14)else(Decimal.mk neg l (s:Int),0)):=by
 unfold JE jd;rw[zb];by_cases h:62<l.length∨62<s
 ·rw[if_pos h,if_pos (by split<;>omega)];rfl
 ·rw[if_neg h,if_neg (by split<;>omega)]
theorem znd{v:Nat}(h:v≠0)(k:Nat):dstr v++List.replicate k 48=dstr (v*10^k):=by
 have e:val (dstr v++List.replicate k 48)=v*10^k:=by rw[yv,Z7]
 rw[←e,ziZ (Digs.append.2 ⟨Y3 v,Digs.zeros k⟩)];intro c r hc;rcases hd:dstr v with _|⟨x,t⟩
 ·exact absurd (zfn.1 hd) h
 ·rw[hd]at hc;cases hc;exact zdk (l:=dstr v) (by rw[zhV,hd])
theorem VV(N:Nat)(neg:Bool){l:List UInt8}{s:Int}(b:Decimal)(h1: -2000≤s)(hl:l.length≤2000):
  qX N neg l s b=some (if 62<l.length+(-s).toNat∨62<s.toNat then(zdI,14)else(Decimal.mk neg (l++List.replicate (-s).toNat 48) (s.toNat:Int),0)):=by
 unfold qX;rw[zb];by_cases h:s<0
 ·obtain⟨m,hm⟩:∃m:Nat,-s=m:=⟨(-s).toNat,by omega⟩
  have e1:s.toNat=0:=by omega
  rw[if_pos h,hm,zg (by omega) (by omega),za,zaH (by omega),zc,zN (by simp;omega),za];have:=VU N neg (l++List.replicate m 48) 0 b;rw[e1,Int.toNat_natCast];rw[List.length_append,List.length_replicate]at this;exact this
 ·obtain⟨m,hm⟩:∃m:Nat,s=m:=⟨s.toNat,by omega⟩
  rw[if_neg h];have e2:(-s).toNat=0:=by omega
  rw[e2,List.replicate_zero,List.append_nil,Nat.add_zero,hm,VU,Int.toNat_natCast]
theorem za5(N:Nat)(neg:Bool)(b:Decimal):∀(m n:Nat)(l:List UInt8)(s:Int),s.toNat=m→m<n→Digs l→(∃c r,l=c::r∧c≠48)→l.length≤2000→s≤2000→
  JD N n neg l s b=qX N neg (dstr (zD s.toNat (val l)).1) (if s<0 then s else((zD s.toNat (val l)).2:Int)) b
 |m,0,l,s,hm,hn,_,_,_,_=>by omega
 |m,n+1,l,s,hm,hn,hd,⟨c,r,hcr,hc⟩,hl,hs=>by
  have hself:dstr (val l)=l:=ziZ hd fun c' r' h=>by rw[hcr]at h;cases h;exact hc
  show Q1 N (JD N n) neg l s b=_;unfold Q1;rw[zb];by_cases h:0<s
  ·obtain⟨q,rfl⟩:∃q:Nat,s=(q+1:Nat):=⟨(s-1).toNat,by omega⟩
   rcases List.eq_nil_or_concat l with h0|⟨t,x,h0⟩
   ·rw[h0]at hcr;cases hcr
   ·rw[List.concat_eq_append]at h0;subst h0;rw[List.length_append]at hl;simp only[List.length_cons,List.length_nil]at hl;rw[Digs.append,Digs.cons]at hd;have hv:=Z6 t x;have hx:=hd.2.1;rw[if_pos h,zkF t x (by omega),zc,zb,Int.toNat_natCast];by_cases hx0:x=48
    ·have ht:∃c r,t=c::r∧c≠48:=by
      cases t with
      |nil=>cases hcr;exact absurd hx0 hc
      |cons c' r'=>cases hcr;exact⟨_,_,rfl,hc⟩
     have e1:(((t++[x]).length:Int)-1)=(t.length:Int):=by simp
     have e2:(((q+1:Nat):Int)-1)=(q:Int):=by omega
     have hin:zj 0 (t.length:Int) (t++[x]).length=true:=by unfold zj;simp;omega
     have e3:zZ (t++[x]) (t.length:Int)=t:=by unfold zZ;simp
     have e4:zD (q+1) (val (t++[x]))=zD q (val t):=by subst hx0;rw[hv,zD,if_pos (by simp)];congr 1;simp
     rw[if_pos hx0,e1,e2,zg (by omega) (by omega),za,hin,za,zg (by omega) (by omega),za,e3,
      za5 N neg b q n t (q:Int) (by simp) (by simp at hm;omega) hd.1 ht (by omega) (by omega),e4,Int.toNat_natCast,if_neg (by omega),if_neg (by omega)]
    ·have hx1:x.toNat≠48:=fun e=>hx0 (UInt8.toNat_inj.1 e)
     have e4:zD (q+1) (val (t++[x]))=(val (t++[x]),q+1):=by rw[zD,if_neg (by rw[hv];omega)]
     rw[if_neg hx0,e4,hself,if_neg (by omega)]
  ·rw[if_neg h];have e1:s.toNat=0:=by omega
   rw[e1];simp only[zD,hself];by_cases h2:s<0
   ·rw[if_pos h2]
   ·rw[if_neg h2,show s=((0:Nat):Int)by omega]
theorem WK{N:Nat}(hN:3000<N)(neg:Bool){l:List UInt8}(hd:Digs l)(hl:l.length≤2000){s:Int}(h1: -2000≤s)(h2:s≤2000):Vh N neg l s=some (nrm neg l s):=by
 unfold Vh;rw[zmI,zc,zb];by_cases h0:val l=0
 ·rw[if_pos ((Wb hd).2 h0)];unfold nrm;rw[h0,Nat.zero_mul,jY];rfl
 ·have hne:tz l≠[]:=fun e=>h0 ((Wb hd).1 e)
  rw[if_neg hne];obtain⟨c,r,hcr⟩:∃c r,tz l=c::r:=by
   rcases htz:tz l with _|⟨c,r⟩
   ·exact absurd htz hne
   ·exact⟨c,r,rfl⟩
  have hlen:=ztT l;rw[za5 N neg _ s.toNat N (tz l) s rfl (by omega) hd.tz ⟨c,r,hcr,zdk hcr⟩ (by omega) h2,XC];have hsl:(dstr (zD s.toNat (val l)).1).length≤2000:=by
   have hlt:=js hd;have hle:(zD s.toNat (val l)).1≤val l:=by have:=(yP s.toNat (val l)).1;have hp:=pow_pos (s.toNat-(zD s.toNat (val l)).2);rw[this];exact Nat.le_trans (Nat.le_of_eq (Nat.mul_one _).symm) (by rw[←this];exact Nat.le_trans (Nat.mul_le_mul_left _ hp) (Nat.le_of_eq this.symm))
   have:=zlf (v:=(zD s.toNat (val l)).1) (n:=l.length) (by omega);omega
  by_cases hs:s<0
  ·rw[if_pos hs,VV N neg _ h1 hsl];have e1:s.toNat=0:=by omega
   unfold nrm;rw[e1];have e2:zD 0 (val l)=(val l,0):=rfl;have hv:val l*10^(-s).toNat≠0:=fun e=>by
    rcases Nat.mul_eq_zero.1 e with e|e
    ·exact h0 e
    ·have:=pow_pos (-s).toNat;omega
   have e3:canon neg (val l*10^(-s).toNat) 0=(neg,dstr (val l)++List.replicate (-s).toNat 48,0):=by unfold canon;rw[if_neg hv,znd h0];rfl
   rw[e2,e3];dsimp only;rw[List.length_append,List.length_replicate];rfl
  ·rw[if_neg hs,VV N neg _ (by omega) hsl];unfold nrm;have e1:(-s).toNat=0:=by omega
   have e3:canon neg (val l*10^(-s).toNat) s.toNat=(neg,dstr (zD s.toNat (val l)).1,(zD s.toNat (val l)).2):=by rw[e1,Nat.pow_zero,Nat.mul_one];unfold canon;rw[if_neg h0]
   have e4:(-(((zD s.toNat (val l)).2:Nat):Int)).toNat=0:=by omega
   rw[e3,e4,Int.toNat_natCast,Nat.add_zero,List.replicate_zero,List.append_nil];rfl
def VD(d:Decimal):Prop:=d.Digits≠[]∧Digs d.Digits∧d.Digits.length≤62∧0≤d.Scale∧d.Scale≤62∧nrm d.Neg d.Digits d.Scale=(d,0)
instance(d:Decimal):Decidable (VD d):=by unfold VD;infer_instance
theorem za6{N:Nat}(hN:3000<N)(neg:Bool){l:List UInt8}(hd:Digs l)(h0:l≠[])(hl:l.length≤1000){s:Int}(h1: -1000≤s)(h2:s≤1000):zb9 N neg l s=some (nrm neg l s):=by unfold zb9;rw[zfq (by omega),zc,zf,if_pos ⟨h0,hd⟩,zb,if_neg (by omega),zb,if_neg (by omega),zb,if_neg (by omega),WK hN neg hd (by omega) (by omega) (by omega),zc]
theorem zca{N:Nat}(hN:3000<N){d:Decimal}(hl:d.Digits.length≤1000):zcb N d=some (if VD d then 0 else 1):=by
 unfold zcb;rw[zfq (by omega),zc,zf];by_cases h1:d.Digits≠[]∧Digs d.Digits
 ·rw[if_pos h1,zb];by_cases h2:62<(d.Digits.length:Int)
  ·rw[if_pos h2,if_neg (fun h=>by have:=h.2.2.1;omega)]
  ·rw[if_neg h2,zb];by_cases h3:d.Scale<0
   ·rw[if_pos h3,if_neg (fun h=>by have:=h.2.2.2.1;omega)]
   ·rw[if_neg h3,zb];by_cases h4:62<d.Scale
    ·rw[if_pos h4,if_neg (fun h=>by have:=h.2.2.2.2.1;omega)]
    ·rw[if_neg h4,WK hN _ h1.2 (by omega) (by omega) (by omega),zc,zf];by_cases h5:(nrm d.Neg d.Digits d.Scale).2=0
     ·rw[if_pos h5];have e:(decide ((nrm d.Neg d.Digits d.Scale).1.Neg=d.Neg)&&(decide ((nrm d.Neg d.Digits d.Scale).1.Digits=d.Digits)&&(decide ((nrm d.Neg d.Digits d.Scale).1.Scale=d.Scale)&&true)))=decide ((nrm d.Neg d.Digits d.Scale).1=d):=by rw[Bool.eq_iff_iff];obtain⟨a,b,c⟩:=d;generalize (nrm a b c).1=y;obtain⟨p,q,r⟩:=y;simp
      rw[e,zf];by_cases h6:(nrm d.Neg d.Digits d.Scale).1=d
      ·rw[if_pos h6,if_pos ⟨h1.1,h1.2,by omega,by omega,by omega,Prod.ext h6 h5⟩]
      ·rw[if_neg h6,if_neg (fun h=>h6 (by rw[h.2.2.2.2.2]))]
     ·rw[if_neg h5,if_neg (fun h=>h5 (by rw[h.2.2.2.2.2]))]
 ·rw[if_neg h1,if_neg (fun h=>h1 ⟨h.1,h.2.1⟩)]
theorem VD.form{d:Decimal}(h:VD d):jI (canon d.Neg (val d.Digits) d.Scale.toNat)=d:=by
 obtain⟨_,_,_,h4,_,h6⟩:=h;unfold nrm at h6;have e:(-d.Scale).toNat=0:=by omega
 rw[e,Nat.pow_zero,Nat.mul_one]at h6;split at h6
 ·cases h6
 ·exact congrArg Prod.fst h6
theorem VD.of{neg:Bool}{v s:Nat}(h1:(canon neg v s).2.1.length≤62)(h2:(canon neg v s).2.2≤62):VD (jI (canon neg v s)):=by
 refine⟨zr5 _ _ _,zfw _ _ _,h1,?_,?_,?_⟩
 ·show(0:Int)≤((canon neg v s).2.2:Int);omega
 ·show((canon neg v s).2.2:Int)≤62;omega
 ·unfold nrm;have e1:(-(jI (canon neg v s)).Scale).toNat=0:=by show(-((canon neg v s).2.2:Int)).toNat=0;omega
  have e2:(jI (canon neg v s)).Scale.toNat=(canon neg v s).2.2:=by show(((canon neg v s).2.2:Nat):Int).toNat=_;omega
  have e3:canon (jI (canon neg v s)).Neg (val (jI (canon neg v s)).Digits) (canon neg v s).2.2=canon neg v s:=zlx neg v s;rw[e1,e2,Nat.pow_zero,Nat.mul_one,e3,if_neg (by omega)]
theorem XM{neg:Bool}{l:List UInt8}{s:Int}(h1:(canon neg (val l*10^(-s).toNat) s.toNat).2.1.length≤62)(h2:(canon neg (val l*10^(-s).toNat) s.toNat).2.2≤62):
  nrm neg l s=(jI (canon neg (val l*10^(-s).toNat) s.toNat),0):=by
 unfold nrm;rw[if_neg (by omega)]
theorem jx{neg:Bool}{v s n:Nat}(hn:1≤n)(h:v<10^n):(canon neg v s).2.1.length≤n:=by
 unfold canon;split
 ·simpa using hn
 ·dsimp only;refine zlf ?_;have:=(yP s v).1;have hp:=pow_pos (s-(zD s v).2);have hle:(zD s v).1≤v:=by rw[this];exact Nat.le_trans (Nat.le_of_eq (Nat.mul_one _).symm) (by rw[←this];exact Nat.le_trans (Nat.mul_le_mul_left _ hp) (Nat.le_of_eq this.symm))
  omega
end Go.Proofs.C06
end
section
set_option maxRecDepth 100000
namespace Go.Proofs.C06
open Go Go.RowKit Go.Vc Go.Am Go.Dg
theorem zsR{v len k:Nat}(h:v<10^len):v%10^(min len k)=v%10^k:=by
 rcases Nat.le_total k len with hk|hk
 ·rw[Nat.min_eq_right hk]
 ·rw[Nat.min_eq_left hk,Nat.mod_eq_of_lt h,Nat.mod_eq_of_lt (Nat.lt_of_lt_of_le h (Nat.pow_le_pow_right (by decide) hk))]
theorem zgI(l:List UInt8){m:Nat}(h:m≤l.length):zZ l ((l.length:Int)-(m:Int))=l.take (l.length-m):=by unfold zZ;congr 1;omega
theorem Ve(l:List UInt8){m:Nat}(h:m≤l.length):zI l ((l.length:Int)-(m:Int))=l.drop (l.length-m):=by unfold zI;congr 1;omega
theorem zni{N:Nat}(hN:3000<N){d b:Decimal}(hd:VD d){m:Nat}(hm:m≤d.Digits.length):
  za7 N (m:Int) d b=some ((nrm d.Neg (d.Digits.take (d.Digits.length-m)++List.replicate m 48) d.Scale).1,decide (val d.Digits%10^m=0),(nrm d.Neg (d.Digits.take (d.Digits.length-m)++List.replicate m 48) d.Scale).2):=by
 obtain⟨h1,h2,h3,h4,h5,_⟩:=hd;unfold za7;have hin1:zj ((d.Digits.length:Int)-(m:Int)) (d.Digits.length:Int) d.Digits.length=true:=by unfold zj;simp<;>omega
 have hin2:zj 0 ((d.Digits.length:Int)-(m:Int)) d.Digits.length=true:=by unfold zj;simp<;>omega
 obtain⟨t,e1,e2⟩:=zqp (s:=d.Digits.drop (d.Digits.length-m)) (by rw[List.length_drop];omega) (h2.drop _);rw[zg (by omega) (by omega),za,hin1,za,za,hin2,za,zaH (by omega),zc,zgI _ hm,Ve _ hm,
  zN (by rw[List.length_take,List.length_replicate];omega),za,
  WK hN _ (Digs.append.2 ⟨h2.take _,Digs.zeros _⟩) (by rw[List.length_append,List.length_take,List.length_replicate];omega) (by omega) (by omega),zc,e1,zc]
 have e3:(t=[])↔val d.Digits%10^m=0:=by rw[e2,(jl h2 hm).2]
 rw[decide_eq_decide.2 e3]
theorem zi1{N:Nat}(hN:3000<N){d:Decimal}(hd:VD d){s:Int}(hs: -1000≤s)(hs2:s≤1000):
  ∃x e,zi2 N d s=some (x,decide (val d.Digits%10^(d.Scale-s).toNat=0),e)∧
   (d.Scale≤s→x=d∧e=0)∧(s<d.Scale→∃m,m=min d.Digits.length (d.Scale-s).toNat∧(x,e)=nrm d.Neg (d.Digits.take (d.Digits.length-m)++List.replicate m 48) d.Scale):=by
 have hd':=hd;obtain⟨h1,h2,h3,h4,h5,_⟩:=hd';unfold zi2;rw[zca hN (by omega),if_pos hd,zc,zf,if_pos rfl,zb];by_cases h:d.Scale≤s
 ·rw[if_pos h];refine⟨d,0,?_,fun _=>⟨rfl,rfl⟩,fun h'=>by omega⟩;have e:(d.Scale-s).toNat=0:=by omega
  rw[e,Nat.pow_zero,Nat.mod_one,decide_eq_true rfl]
 ·rw[if_neg h,zb,if_pos (by omega),zg (by omega) (by omega),za];have em:Vq (d.Digits.length:Int) (d.Scale-s)=((min d.Digits.length (d.Scale-s).toNat:Nat):Int):=by unfold Vq;split<;>omega
  rw[em,zni hN hd (by omega),zsR (js h2)];exact⟨_,_,rfl,fun h'=>absurd h' h,fun _=>⟨_,rfl,rfl⟩⟩
def quo(v S:Nat)(s:Int):Nat:=v*10^(s-(S:Int)).toNat/10^((S:Int)-s).toNat
def exact(v S:Nat)(s:Int):Prop:=v%10^((S:Int)-s).toNat=0
instance(v S:Nat)(s:Int):Decidable (exact v S s):=by unfold exact;infer_instance
theorem zao{N:Nat}{n:Nat}{s:List UInt8}(hn:n≤1000)(hs:s.length≤1000):Yv N (n:Int) s=some (List.replicate (n-s.length) 48++s,true):=by
 unfold Yv;have e:jd ((n:Int)-(s.length:Int)) 0=((n-s.length:Nat):Int):=by unfold jd;split<;>omega
 rw[zg (by omega) (by omega),za,e,zaH (by omega),zc,zN (by rw[List.length_replicate];omega),za]
theorem KP{N:Nat}(hN:3000<N){d:Decimal}(hd:VD d){n:Nat}{s:Int}(hn:n≤1000)(hs: -62≤s)(hs2:s≤62):
  (exact (val d.Digits) d.Scale.toNat s→∃t,places N d (n:Int) s=some (t,true)∧Digs t∧val t=quo (val d.Digits) d.Scale.toNat s∧n≤t.length∧t.length≤2000)∧
  (¬exact (val d.Digits) d.Scale.toNat s→places N d (n:Int) s=some ([],false)):=by
 obtain⟨x,e,hc,_⟩:=zi1 hN hd (s:=s) (by omega) (by omega);obtain⟨h1,h2,h3,h4,h5,_⟩:=hd;have hS:((d.Scale.toNat:Nat):Int)=d.Scale:=by omega
 have hex:(val d.Digits%10^(d.Scale-s).toNat=0)↔exact (val d.Digits) d.Scale.toNat s:=by unfold exact;rw[hS]
 unfold places;rw[hc,zc,zf];constructor
 ·intro he;rw[if_pos (hex.2 he),zg (by omega) (by omega),za,zb];by_cases h:0≤s-d.Scale
  ·obtain⟨k,hk⟩:∃k:Nat,s-d.Scale=k:=⟨(s-d.Scale).toNat,by omega⟩
   have e1:(d.Scale-s).toNat=0:=by omega
   refine⟨List.replicate (n-(d.Digits++List.replicate k 48).length) 48++(d.Digits++List.replicate k 48),?_,?_,?_,?_,?_⟩
   ·rw[if_pos h,hk,zaH (by omega),zc,zN (by rw[List.length_replicate];omega),za,zao hn (by rw[List.length_append,List.length_replicate];omega)]
   ·exact Digs.append.2 ⟨Digs.zeros _,Digs.append.2 ⟨h2,Digs.zeros _⟩⟩
   ·rw[qM,yv];unfold quo;rw[hS,hk,e1,Int.toNat_natCast,Nat.pow_zero,Nat.div_one]
   ·simp only[List.length_append,List.length_replicate];omega
   ·simp only[List.length_append,List.length_replicate];omega
  ·obtain⟨k,hk⟩:∃k:Nat,d.Scale-s=k:=⟨(d.Scale-s).toNat,by omega⟩
   have em:jd ((d.Digits.length:Int)+(s-d.Scale)) 0=((d.Digits.length-k:Nat):Int):=by unfold jd;split<;>omega
   have et:zZ d.Digits ((d.Digits.length-k:Nat):Int)=d.Digits.take (d.Digits.length-k):=rfl;have hin:zj 0 ((d.Digits.length-k:Nat):Int) d.Digits.length=true:=by unfold zj;simp<;>omega
   have e1:(s-d.Scale).toNat=0:=by omega
   refine⟨List.replicate (n-(d.Digits.take (d.Digits.length-k)).length) 48++d.Digits.take (d.Digits.length-k),?_,?_,?_,?_,?_⟩
   ·rw[if_neg h,zg (by omega) (by omega),za,em,hin,za,et,zao hn (by rw[List.length_take];omega)]
   ·exact Digs.append.2 ⟨Digs.zeros _,h2.take _⟩
   ·rw[qM];unfold quo;rw[hS,e1,hk,Int.toNat_natCast,Nat.pow_zero,Nat.mul_one];rcases Nat.le_total k d.Digits.length with hkl|hkl
    ·exact (jl h2 hkl).1
    ·have:d.Digits.length-k=0:=by omega
     rw[this,List.take_zero,zhK,Nat.div_eq_of_lt (Nat.lt_of_lt_of_le (js h2) (Nat.pow_le_pow_right (by decide) hkl))]
   ·simp only[List.length_append,List.length_replicate,List.length_take];omega
   ·simp only[List.length_append,List.length_replicate,List.length_take];omega
 ·intro he;rw[if_neg (fun h=>he (hex.1 h))]
theorem zbF{N:Nat}(hN:3000<N){d:Decimal}(hl:d.Digits.length≤1000){n:Nat}{s:Int}(hn0:1≤n)(hn:n≤62)(hs: -62≤s)(hs2:s≤62):zef N d (n:Int) s=some (if VD d then 0 else 1):=by
 unfold zef;rw[zca hN hl,zc,zf];by_cases h:VD d
 ·rw[if_pos h,if_pos rfl,zb,if_neg (by omega),zb,if_neg (by omega),zb,if_neg (by omega),zb,if_neg (by omega)]
 ·rw[if_neg h,if_neg (by decide)]
def qK(d:Decimal)(n:Nat)(s:Int):Prop:=exact (val d.Digits) d.Scale.toNat s∧quo (val d.Digits) d.Scale.toNat s<10^n
instance(d:Decimal)(n:Nat)(s:Int):Decidable (qK d n s):=by unfold qK;infer_instance
theorem zqK{N:Nat}(hN:3000<N){d:Decimal}(hd:VD d){n:Nat}{s:Int}(hn0:1≤n)(hn:n≤62)(hs: -62≤s)(hs2:s≤62):znZ N d (n:Int) s=some (decide (qK d n s),0):=by
 have hlen:d.Digits.length≤1000:=by have:=hd.2.2.1;omega
 obtain⟨p1,p2⟩:=KP hN hd (n:=n) (s:=s) (by omega) hs hs2;unfold znZ;rw[zbF hN hlen hn0 hn hs hs2,if_pos hd,zc,zf,if_pos rfl];by_cases he:exact (val d.Digits) d.Scale.toNat s
 ·obtain⟨t,e1,e2,e3,e4,e5⟩:=p1 he;have hin:zj 0 ((t.length:Int)-(n:Int)) t.length=true:=by unfold zj;simp<;>omega
  obtain⟨q,g1,g2⟩:=zqp (s:=t.take (t.length-n)) (by rw[List.length_take];omega) (e2.take _);rw[e1,zc];dsimp only;rw[cond_true,zg (by omega) (by omega),za,hin,za,zgI _ e4,g1,zc];congr 2;rw[decide_eq_decide,g2,(jl e2 e4).1,e3];unfold qK;have hp:=pow_pos n;constructor
  ·intro h;exact⟨he,by rcases Nat.div_eq_zero_iff.1 h with h|h;omega;exact h⟩
  ·intro h;exact Nat.div_eq_of_lt h.2
 ·rw[p2 he,zc];dsimp only;rw[cond_false,decide_eq_false (fun h=>he h.1)]
theorem Wh{N:Nat}(hN:3000<N){d:Decimal}(hd:VD d){n:Nat}{s:Int}(hn0:1≤n)(hn:n≤62)(hs: -62≤s)(hs2:s≤62):
  JR N d (n:Int) s=some (if qK d n s then(fmt n (quo (val d.Digits) d.Scale.toNat s),0)else([],14)):=by
 obtain⟨p1,_⟩:=KP hN hd (n:=n) (s:=s) (by omega) hs hs2;unfold JR;rw[zqK hN hd hn0 hn hs hs2,zc,zf,if_pos rfl,zf];by_cases h:qK d n s
 ·obtain⟨t,e1,e2,e3,e4,e5⟩:=p1 h.1;have hin:zj ((t.length:Int)-(n:Int)) (t.length:Int) t.length=true:=by unfold zj;simp<;>omega
  rw[if_pos h,if_pos h,e1,zc];dsimp only;rw[zg (by omega) (by omega),za,hin,za,Ve _ e4];congr 2;refine zrq (e2.drop _) (by rw[List.length_drop];omega) ?_;rw[(jl e2 e4).2,e3,Nat.mod_eq_of_lt h.2]
 ·rw[if_neg h,if_neg h]
theorem YO{v S n:Nat}{s:Int}(hS:S≤62)(hs: -62≤s)(hs2:s≤62):(exact v S s∧quo v S s<10^n)↔∃q,q<10^n∧v*10^(62+s).toNat=q*10^(62+S):=by
 unfold exact quo;have hp:0<10^((S:Int)-s).toNat:=pow_pos _;have key:∀q,(v*10^(s-(S:Int)).toNat=q*10^((S:Int)-s).toNat)↔v*10^(62+s).toNat=q*10^(62+S):=by
  intro q;rcases Int.le_total s S with h|h
  ·have e1:(s-(S:Int)).toNat=0:=by omega
   have e2:62+S=((S:Int)-s).toNat+(62+s).toNat:=by omega
   rw[e1,e2,Nat.pow_zero,Nat.mul_one,Nat.pow_add,←Nat.mul_assoc];constructor
   ·intro h;rw[h]
   ·intro h;exact Nat.eq_of_mul_eq_mul_right (pow_pos _) h
  ·have e1:((S:Int)-s).toNat=0:=by omega
   have e2:(62+s).toNat=(s-(S:Int)).toNat+(62+S):=by omega
   rw[e1,e2,Nat.pow_zero,Nat.mul_one,Nat.pow_add,←Nat.mul_assoc];constructor
   ·intro h;rw[h]
   ·intro h;exact Nat.eq_of_mul_eq_mul_right (pow_pos _) h
 constructor
 ·rintro⟨h1,h2⟩;refine⟨_,h2,(key _).1 ?_⟩;rw[Nat.div_mul_cancel];exact Nat.dvd_trans (Nat.dvd_of_mod_eq_zero h1) (Nat.dvd_mul_right _ _)
 ·rintro⟨q,h1,h2⟩;have h3:=(key q).2 h2;refine⟨?_,by rw[h3,Nat.mul_div_cancel _ hp];exact h1⟩;rcases Int.le_total s S with h|h
  ·have e1:(s-(S:Int)).toNat=0:=by omega
   rw[e1,Nat.pow_zero,Nat.mul_one]at h3;rw[h3];exact Nat.mul_mod_left _ _
  ·have e1:((S:Int)-s).toNat=0:=by omega
   rw[e1,Nat.pow_zero,Nat.mod_one]
theorem zic{v S q:Nat}{s:Int}(hS:S≤62)(hs: -62≤s)(hs2:s≤62)(h:v*10^(62+s).toNat=q*10^(62+S)):quo v S s=q:=by
 obtain⟨h1,h2⟩:=(YO (v:=v) (n:=q+1) hS hs hs2).2 ⟨q,Nat.lt_of_lt_of_le (XU q) (Nat.pow_le_pow_right (by decide) (by omega)),h⟩;obtain⟨q',h3,h4⟩:=(YO (v:=v) (n:=q+1) hS hs hs2).1 ⟨h1,h2⟩;have hq:q'=q:=Nat.eq_of_mul_eq_mul_right (pow_pos _) (h4.symm.trans h);unfold quo;rcases Int.le_total s S with h'|h'
 ·have e1:(s-(S:Int)).toNat=0:=by omega
  have e2:62+S=((S:Int)-s).toNat+(62+s).toNat:=by omega
  rw[e2,Nat.pow_add,←Nat.mul_assoc]at h;have:=Nat.eq_of_mul_eq_mul_right (pow_pos _) h;rw[e1,Nat.pow_zero,Nat.mul_one,this,Nat.mul_div_cancel _ (pow_pos _)]
 ·have e1:((S:Int)-s).toNat=0:=by omega
  have e2:(62+s).toNat=(s-(S:Int)).toNat+(62+S):=by omega
  rw[e2,Nat.pow_add,←Nat.mul_assoc]at h;have:=Nat.eq_of_mul_eq_mul_right (pow_pos _) h;rw[e1,Nat.pow_zero,Nat.div_one,this]
end Go.Proofs.C06
end
section
set_option maxRecDepth 100000
namespace Go.Proofs.C06
open Go Go.RowKit Go.Vc Go.Am Go.Dg
theorem zF{i n:Nat}(h:i<n):inIx (i:Int) n=true:=zm.2 ⟨by omega,by omega⟩
theorem zu(s:List UInt8)(i:Nat):byteAt s (i:Int)=((s.getD i 0).toNat:Int):=rfl
theorem Zq{n:Int}(h0:0≤n)(h:n≤255):inKb .u8 n=true:=yl.2 ⟨h0,h⟩
theorem zad(c:UInt8):c.toNat<256:=UInt8.toNat_lt c
theorem zqq(c:UInt8):((c.toNat:Int).toNat.toUInt8)=c:=by simp
theorem Yt{c:Nat}:toByte (c:Int)=UInt8.ofNat c:=rfl
theorem zae(c:UInt8):toByte ((c.toNat:Nat):Int)=c:=by unfold toByte;rw[Int.toNat_natCast];exact UInt8.ofNat_toNat
theorem zkT{l:List UInt8}{i:Nat}(h:i<l.length):l.getD i 0∈l:=by rw[List.getD_eq_getElem?_getD,List.getElem?_eq_getElem h];exact List.getElem_mem h
theorem yB{l:List UInt8}(hd:Digs l){i:Nat}(h:i<l.length):48≤(l.getD i 0).toNat∧(l.getD i 0).toNat≤57:=hd _ (zkT h)
theorem zo0{l:List UInt8}{i:Nat}(h:i<l.length)(x:UInt8):l.take i++[x]++l.drop (i+1)=l.set i x:=by rw[List.set_eq_take_append_cons_drop,if_pos h,List.append_assoc];rfl
def zcy:List UInt8:=[123,65,66,67,68,69,70,71,72,73]
def Qv:List UInt8:=[125,74,75,76,77,78,79,80,81,82]
def zmr:List UInt8:=[48,49,50,51,52,53,54,55,56,57]
def ixC(c:UInt8):Int:=jd (Lib.indexByte zcy c) (Lib.indexByte Qv c)
def zrJ(c:UInt8):Option (Bool×UInt8):=if 0≤ixC c then some (decide (0≤Lib.indexByte Qv c),zmr.getD (ixC c).toNat 0)else none
def letC(ng:Bool)(c:UInt8):UInt8:=(if ng then Qv else zcy).getD (c.toNat-48) 0
theorem zui(c:UInt8):ixC c<10:=by
 have:∀m:Fin 256,ixC (UInt8.ofNat m.val)<10:=by decide
 have h:=this ⟨c.toNat,zad c⟩;simpa using h
theorem zpP(ng:Bool){c:UInt8}(h:48≤c.toNat∧c.toNat≤57):zrJ (letC ng c)=some (ng,c):=by
 have:∀m:Fin 256,48≤m.val→m.val≤57→zrJ (letC true (UInt8.ofNat m.val))=some (true,UInt8.ofNat m.val)∧zrJ (letC false (UInt8.ofNat m.val))=some (false,UInt8.ofNat m.val):=by decide
 have h2:=this ⟨c.toNat,zad c⟩ h.1 h.2;simp only[UInt8.ofNat_toNat]at h2;cases ng
 ·exact h2.2
 ·exact h2.1
def sgnAt(ld:Bool)(n:Nat):Nat:=if ld then 0 else n-1
theorem zkZ{N:Nat}{f:form}{n:Nat}(hn:f.Digits=(n:Int))(h1:1≤n)(h2:n≤100):zk0 N f=some ((sgnAt f.Leading n:Nat):Int):=by
 unfold zk0 sgnAt;cases f.Leading with
 |true=>rfl
 |false=>rw[cond_false,hn,zg (by omega) (by omega),za,if_neg (by simp)];congr 1;omega
theorem zd6{ld:Bool}{n:Nat}(h:1≤n):sgnAt ld n<n:=by unfold sgnAt;split<;>omega
def rZ(sg ld:Bool)(n:Nat)(b:List UInt8):digits×Bool:=
 if sg then match zrJ (b.getD (sgnAt ld n) 0)with
  |some (ng,x)=>(digits.mk ng (b.set (sgnAt ld n) x),decide (Digs (b.set (sgnAt ld n) x)))
  |none=>(digits.mk false b,decide (Digs b))
 else(digits.mk false b,decide (Digs b))
theorem ztA{s:List UInt8}(hs:s.length≤1000000):∃t,Zp s [48,49,50,51,52,53,54,55,56,57]=some t∧(t=[]↔Digs s):=by refine⟨_,zaD hs (by decide) (by decide),?_⟩;rw[zbw];exact⟨fun h c hc=>(Vf c).1 (h c hc),fun h c hc=>(Vf c).2 (h c hc)⟩
theorem Qj{N:Nat}(b0 b1:digits)(h:b1.s.length≤1000):ZQ N b0 b1=some (b1,decide (Digs b1.s)):=by unfold ZQ;obtain⟨t,h1,h2⟩:=ztA (s:=b1.s) (by omega);rw[h1,zc,decide_eq_decide.2 h2]
theorem zoM{N:Nat}{f:form}{b:List UInt8}{n:Nat}(hn:f.Digits=(n:Int))(h1:1≤n)(h2:n≤100)(hb:b.length=n):zdY N f b=some (rZ f.Signed f.Leading n b):=by
 unfold zdY rZ;rw[zkZ hn h1 h2,zc];have hlt:=zd6 (ld:=f.Leading) h1;generalize sgnAt f.Leading n=i at hlt;cases f.Signed with
 |false=>rw[cond_false,Qj _ _ (by show b.length≤1000;omega),if_neg (by simp)]
 |true=>
  rw[cond_true,if_pos rfl,zF (by omega),za,zu];unfold jX;rw[zqq,zc,zc];have e:jd (Lib.indexByte [123,65,66,67,68,69,70,71,72,73] (b.getD i 0)) (Lib.indexByte [125,74,75,76,77,78,79,80,81,82] (b.getD i 0))=ixC (b.getD i 0):=rfl;rw[e,zb];have hk:=zui (b.getD i 0);unfold zrJ;by_cases h0:0≤ixC (b.getD i 0)
  ·obtain⟨k,hk0⟩:∃k:Nat,ixC (b.getD i 0)=k:=⟨(ixC (b.getD i 0)).toNat,by omega⟩
   have hsub:Vc.sub ([48,49,50,51,52,53,54,55,56,57]:List UInt8) (k:Int) ((k:Int)+1)=[zmr.getD k 0]:=by
    have:∀m:Fin 10,Vc.sub ([48,49,50,51,52,53,54,55,56,57]:List UInt8) ((m.val:Nat):Int) (((m.val:Nat):Int)+1)=[zmr.getD m.val 0]:=by decide
    exact this ⟨k,by omega⟩
   have hin1:zj 0 (i:Int) b.length=true:=by unfold zj;simp<;>omega
   have hin2:zj (k:Int) ((k:Int)+1) ([48,49,50,51,52,53,54,55,56,57]:List UInt8).length=true:=by unfold zj;simp<;>omega
   have hin3:zj ((i:Int)+1) (b.length:Int) b.length=true:=by unfold zj;simp<;>omega
   have ht:zZ b (i:Int)=b.take i:=rfl;have hd:zI b ((i:Int)+1)=b.drop (i+1):=by unfold zI;congr 1
   rw[if_pos h0,if_pos h0,hk0,hsub,hin1,za,zg (by omega) (by omega),za,hin2,za,ht,zN (by simp[List.length_take];omega),za,zg (by omega) (by omega),za,hin3,za,hd,
    zN (by simp[List.length_take];omega),za,zo0 (by omega),Qj _ _ (by show(b.set i _).length≤1000;rw[List.length_set];omega),Int.toNat_natCast]
   rfl
  ·rw[if_neg h0,if_neg h0,Qj _ _ (by show b.length≤1000;omega)]
def wZ(sg ld ng:Bool)(n:Nat)(s:List UInt8):List UInt8:=if sg then s.set (sgnAt ld n) (letC ng (s.getD (sgnAt ld n) 0))else s
theorem jp{n:Int}(h0:0≤n)(h1:n<256):IntKind.wrap .u8 n=n:=znH h0 h1
theorem XD{N:Nat}{i:Nat}{ng:Bool}{s:List UInt8}(hi:i<s.length)(hd:Digs s):Ze N (i:Int) (if ng then Qv else zcy) s=some (s.set i (letC ng (s.getD i 0))):=by
 have h:=yB hd hi;have hl:(if ng then Qv else zcy).length=10:=by cases ng<;>rfl
 unfold Ze;have e:((s.getD i 0).toNat:Int)-48=(((s.getD i 0).toNat-48:Nat):Int):=by omega
 rw[zF hi,za,za,zu,e,jp (by omega) (by omega),zF (by omega),za,za,zu,Zq (by omega) (by have:=zad ((if ng then Qv else zcy).getD ((s.getD i 0).toNat-48) 0);omega),
  zae,Int.toNat_natCast]
 rfl
theorem zjF{N:Nat}{f:form}{d:digits}{n:Nat}(hn:f.Digits=(n:Int))(h1:1≤n)(h2:n≤100)(hs:d.s.length=n)(hd:Digs d.s):Yp N f d=some (wZ f.Signed f.Leading d.neg n d.s):=by
 unfold Yp wZ;rw[zkZ hn h1 h2,zc];have hlt:=zd6 (ld:=f.Leading) h1;cases f.Signed with
 |false=>rw[cond_false,if_neg (by simp)]
 |true=>
  rw[cond_true,if_pos rfl];have h3:=XD (N:=N) (ng:=true) (i:=sgnAt f.Leading n) (s:=d.s) (by omega) hd;have h4:=XD (N:=N) (ng:=false) (i:=sgnAt f.Leading n) (s:=d.s) (by omega) hd;cases d.neg with
  |true=>exact h3
  |false=>exact h4
theorem ztN{sg ld ng:Bool}{n:Nat}{s:List UInt8}:(wZ sg ld ng n s).length=s.length:=by unfold wZ;split<;>simp
theorem zuV{sg ld ng:Bool}{n:Nat}{s:List UInt8}(h1:1≤n)(hs:s.length=n)(hd:Digs s):rZ sg ld n (wZ sg ld ng n s)=(digits.mk (sg&&ng) s,true):=by
 have hlt:=zd6 (ld:=ld) h1;unfold rZ wZ;cases sg with
 |false=>simp[hd]
 |true=>
  simp only[if_true,Bool.true_and];have e:(s.set (sgnAt ld n) (letC ng (s.getD (sgnAt ld n) 0))).getD (sgnAt ld n) 0=letC ng (s.getD (sgnAt ld n) 0):=by rw[List.getD_eq_getElem?_getD,List.getElem?_set_self (by omega)];rfl
  have e2:(s.set (sgnAt ld n) (letC ng (s.getD (sgnAt ld n) 0))).set (sgnAt ld n) (s.getD (sgnAt ld n) 0)=s:=by
   rw[List.set_set];apply List.ext_getElem?;intro j;rw[List.getElem?_set];split
   ·rename_i h;subst h;rw[if_pos (by omega),List.getD_eq_getElem?_getD,List.getElem?_eq_getElem (by omega)];rfl
   ·rfl
  rw[e,zpP ng (yB hd (by omega))];dsimp only;rw[e2,decide_eq_true hd]
def rS(ld:Bool)(n:Nat)(b:List UInt8):digits×Bool:=(digits.mk (decide (b.getD (if ld then 0 else n) 0=45)) (if ld then b.drop 1 else b.take n),decide ((b.getD (if ld then 0 else n) 0=43∨b.getD (if ld then 0 else n) 0=45)∧Digs (if ld then b.drop 1 else b.take n)))
theorem zdD{c:UInt8}{k:Nat}(hk:k<256):((c.toNat:Int)=(k:Int))↔c=UInt8.ofNat k:=by
 constructor
 ·intro h;apply UInt8.toNat_inj.1;rw[UInt8.toNat_ofNat'];omega
 ·rintro rfl;rw[UInt8.toNat_ofNat'];omega
theorem Xj{N:Nat}{f:form}{b:List UInt8}{n at_ fr:Nat}(hn:f.Digits=(n:Int))(h2:n≤100)(hb:b.length=n+1)(ha:at_<b.length)(hf:fr+n≤b.length)(d:digits):
  qq N b (at_:Int) (fr:Int) f d=some (digits.mk (decide (b.getD at_ 0=45)) ((b.take (fr+n)).drop fr),decide ((b.getD at_ 0=43∨b.getD at_ 0=45)∧Digs ((b.take (fr+n)).drop fr))):=by
 unfold qq;have e1:(fr:Int)+f.Digits=((fr+n:Nat):Int):=by omega
 have hin:zj (fr:Int) ((fr+n:Nat):Int) b.length=true:=by unfold zj;simp<;>omega
 have es:Vc.sub b (fr:Int) ((fr+n:Nat):Int)=(b.take (fr+n)).drop fr:=rfl;have h43:(((b.getD at_ 0).toNat:Int)=43)↔b.getD at_ 0=43:=zdD (k:=43) (by decide);have h45:(((b.getD at_ 0).toNat:Int)=45)↔b.getD at_ 0=45:=zdD (k:=45) (by decide);obtain⟨t,t1,t2⟩:=ztA (s:=(b.take (fr+n)).drop fr) (by rw[List.length_drop,List.length_take];omega);rw[zF ha,za,e1,zg (by omega) (by omega),za,hin,za,zu,es];simp only[t1,zc,za,decide_eq_decide.2 h43,decide_eq_decide.2 h45,decide_eq_decide.2 t2];clear h43 h45;generalize b.getD at_ 0=x;by_cases c1:x=43
 ·simp[c1]
 ·by_cases c2:x=45
  ·simp[c2]
  ·simp[c1,c2]
theorem zhT{N:Nat}{f:form}{b:List UInt8}{n:Nat}(hn:f.Digits=(n:Int))(h2:n≤100)(hb:b.length=n+1):Yq N f b=some (rS f.Leading n b):=by
 unfold Yq rS;cases f.Leading with
 |true=>rw[cond_true];have:=Xj (N:=N) hn h2 hb (at_:=0) (fr:=1) (by omega) (by omega) (digits.mk false []);rw[show(b.take (1+n)).drop 1=b.drop 1 by rw[List.take_of_length_le (by omega)]]at this;exact this
 |false=>rw[cond_false,hn];have:=Xj (N:=N) hn h2 hb (at_:=n) (fr:=0) (by omega) (by omega) (digits.mk false []);rw[Nat.zero_add,List.drop_zero]at this;exact this
def wS(ld ng:Bool)(s:List UInt8):List UInt8:=if ld then(if ng then 45 else 43)::s else s++[if ng then 45 else 43]
theorem zd0{N:Nat}{f:form}{d:digits}(hs:d.s.length≤1000):yZ N f d=some (wS f.Leading d.neg d.s):=by
 unfold yZ qj wS;cases d.neg<;>cases f.Leading<;>simp[zN (show([45]:List UInt8).length+d.s.length≤1000000 by simp;omega),zN (show([43]:List UInt8).length+d.s.length≤1000000 by simp;omega),
  zN (show d.s.length+([45]:List UInt8).length≤1000000 by simp;omega),zN (show d.s.length+([43]:List UInt8).length≤1000000 by simp;omega)]
theorem ztO{ld ng:Bool}{s:List UInt8}:(wS ld ng s).length=s.length+1:=by unfold wS;split<;>simp
theorem zuW{ld ng:Bool}{n:Nat}{s:List UInt8}(hs:s.length=n)(hd:Digs s):rS ld n (wS ld ng s)=(digits.mk ng s,true):=by
 unfold rS wS;cases ld with
 |true=>cases ng<;>simp[hd]
 |false=>
  have e:(s++[if ng then(45:UInt8)else 43]).getD n 0=if ng then 45 else 43:=by rw[List.getD_eq_getElem?_getD,List.getElem?_append_right (by omega)];simp[hs]
  have e2:(s++[if ng then(45:UInt8)else 43]).take n=s:=by rw[List.take_append_of_le_length (by omega),List.take_of_length_le (by omega)]
  simp only[Bool.false_eq_true,if_false,e,e2];cases ng<;>simp[hd]
end Go.Proofs.C06
end
section
set_option maxRecDepth 100000
namespace Go.Proofs.C06
open Go Go.RowKit Go.Vc Go.Am Go.Dg
theorem VG(N:Nat)(neg:Bool)(b:Decimal):∀(m n:Nat)(l:List UInt8)(s:Nat),s=m→m<n→Digs l→(∃c r,l=c::r∧c≠48)→l.length≤2000→s≤2000→
  Jo N n neg l (s:Int) b=some (Decimal.mk neg (dstr (zD s (val l)).1) ((zD s (val l)).2:Int))
 |m,0,l,s,hm,hn,_,_,_,_=>by omega
 |m,n+1,l,s,hm,hn,hd,⟨c,r,hcr,hc⟩,hl,hs=>by
  have hself:dstr (val l)=l:=ziZ hd fun c' r' h=>by rw[hcr]at h;cases h;exact hc
  show Qy N (Jo N n) neg l (s:Int) b=_;unfold Qy;rw[zb];cases s with
  |zero=>rw[if_neg (by omega)];simp only[zD,hself]
  |succ q=>
   rcases List.eq_nil_or_concat l with h0|⟨t,x,h0⟩
   ·rw[h0]at hcr;cases hcr
   ·rw[List.concat_eq_append]at h0;subst h0;rw[List.length_append]at hl;simp only[List.length_cons,List.length_nil]at hl;rw[Digs.append,Digs.cons]at hd;have hv:=Z6 t x;have hx:=hd.2.1;have e1:(((t++[x]).length:Int)-1)=(t.length:Int):=by simp
    have hat:byteAt (t++[x]) (t.length:Int)=((x.toNat:Nat):Int):=by unfold byteAt;rw[Int.toNat_natCast,List.getD_eq_getElem?_getD,List.getElem?_append_right (Nat.le_refl _),Nat.sub_self];rfl
    have h48:(((x.toNat:Nat):Int)=48)↔x=48:=zdD (k:=48) (by decide);rw[if_pos (by omega),e1,zg (by omega) (by omega),za,zF (by simp),za,hat,zb];by_cases hx0:x=48
    ·have ht:∃c r,t=c::r∧c≠48:=by
      cases t with
      |nil=>cases hcr;exact absurd hx0 hc
      |cons c' r'=>cases hcr;exact⟨_,_,rfl,hc⟩
     have hin:zj 0 (t.length:Int) (t++[x]).length=true:=by unfold zj;simp<;>omega
     have e3:zZ (t++[x]) (t.length:Int)=t:=by unfold zZ;simp
     have e4:zD (q+1) (val (t++[x]))=zD q (val t):=by subst hx0;rw[hv,zD,if_pos (by simp)];congr 1;simp
     rw[if_pos (h48.2 hx0),za,hin,za,show((q+1:Nat):Int)-1=(q:Int)by omega,zg (by omega) (by omega),za,e3,
      VG N neg b q n t q rfl (by omega) hd.1 ht (by omega) (by omega),e4]
    ·have hx1:x.toNat≠48:=fun e=>hx0 (UInt8.toNat_inj.1 e)
     have e4:zD (q+1) (val (t++[x]))=(val (t++[x]),q+1):=by rw[zD,if_neg (by rw[hv];omega)]
     rw[if_neg (fun h=>hx0 (h48.1 h)),e4,hself]
theorem VH{N:Nat}(hN:3000<N)(neg:Bool){l:List UInt8}(hd:Digs l)(hl:l.length≤2000){s:Nat}(hs:s≤2000)(h0:l=[]∨∃c r,l=c::r∧c≠48)(b:Decimal):
  Jp N neg l (s:Int) b=some (jI (canon neg (val l) s)):=by
 unfold Jp;rw[zb];rcases h0 with rfl|⟨c,r,hcr,hc⟩
 ·rw[if_pos rfl];rw[zhK,jY];rfl
 ·rw[if_neg (by rw[hcr];simp),VG N neg b s N l s rfl (by omega) hd ⟨c,r,hcr,hc⟩ hl hs];have hv:val l≠0:=fun e=>by have:=(Wb hd).2 e;rw[hcr,zdl,if_neg hc]at this;cases this
  unfold canon;rw[if_neg hv];rfl
theorem VF{N:Nat}(hN:3000<N)(neg:Bool){s:Nat}(hs:s≤2000)(b:Decimal):∀(n:Nat)(l:List UInt8),l.length<n→Digs l→l.length≤2000→
  Jn N n neg l (s:Int) b=some (jI (canon neg (val l) s))
 |0,l,h,_,_=>by omega
 |n+1,l,h,hd,hl=>by
  show Qx N (Jn N n) neg l (s:Int) b=_;unfold Qx;rw[zb];cases l with
  |nil=>rw[if_neg (by simp)];exact VH hN neg hd hl hs (.inl rfl) b
  |cons c r=>
   have h48:(((c.toNat:Nat):Int)=48)↔c=48:=zdD (k:=48) (by decide);have eb:byteAt (c::r) 0=((c.toNat:Nat):Int):=rfl;have hin0:inIx 0 (c::r).length=true:=zF (i:=0) (by simp);simp only[List.length_cons]at h hl;rw[if_pos (by simp<;>omega),hin0,za,eb,zb];by_cases hc:c=48
   ·have hin:zj 1 ((c::r).length:Int) (c::r).length=true:=by unfold zj;simp<;>omega
    have ed:zI (c::r) 1=r:=rfl;rw[if_pos (h48.2 hc),hin,za,ed,VF hN neg hs b n r (by omega) (Digs.cons.1 hd).2 (by omega)];subst hc;rw[qi];simp
   ·rw[if_neg (fun h=>hc (h48.1 h))];exact VH hN neg hd (by simp<;>omega) hs (.inr ⟨c,r,rfl,hc⟩) b
theorem Wu{N:Nat}(hN:3000<N)(neg:Bool){l:List UInt8}(hd:Digs l)(hl:l.length≤2000){s:Nat}(hs:s≤2000):K1 N neg l (s:Int)=some (jI (canon neg (val l) s)):=by unfold K1;exact VF hN neg hs _ N l (by omega) hd hl
theorem zaC{N:Nat}(hN:3000<N)(neg:Bool){sc:Int}(hs1: -1000≤sc)(hs:sc≤1000)(b:Decimal):∀(n k:Nat)(l:List UInt8),k<n→k≤1000→Digs l→l.length+k≤2000→((0≤ -(k:Int)→k=0))→
  ZV N n neg l sc (-(k:Int)) b=some (jI (canon neg (val l*10^k) sc.toNat))
 |0,k,_,h,_,_,_,_=>by omega
 |n+1,k,l,h,hk,hd,hl,_=>by
  show Zo N (ZV N n) neg l sc (-(k:Int)) b=_;unfold Zo;rw[zb];cases k with
  |zero=>
   have e:jd sc 0=((sc.toNat:Nat):Int):=by unfold jd;split<;>omega
   rw[if_neg (by omega),e,Wu hN neg hd (by omega) (by omega),zc,Nat.pow_zero,Nat.mul_one]
  |succ k=>
   have e: -((k+1:Nat):Int)+1= -(k:Int):=by omega
   rw[if_pos (by omega),zN (by simp;omega),za,zg (by omega) (by omega),za,e,
    zaC hN neg hs1 hs b n k (l++[48]) (by omega) (by omega) (Digs.append.2 ⟨hd,by decide⟩) (by simp;omega) (by omega),Z6,Nat.pow_succ]
   have:(10*val l+((48:UInt8).toNat-48))*10^k=val l*(10^k*10):=by rw[show(48:UInt8).toNat-48=0 from rfl,Nat.add_zero,Nat.mul_comm 10,Nat.mul_assoc,Nat.mul_comm 10]
   rw[this]
theorem zg6{N:Nat}(hN:3000<N)(neg:Bool){l:List UInt8}(hd:Digs l)(hl:l.length≤500){sc:Int}(hs1: -1000≤sc)(hs:sc≤1000):Qw N neg l sc=some (jI (canon neg (val l*10^(-sc).toNat) sc.toNat)):=by
 unfold Qw;by_cases h:sc≤0
 ·have e:sc= -((-sc).toNat:Int):=by omega
  have:=zaC (N:=N) hN neg hs1 hs (Decimal.mk false [] 0) N (-sc).toNat l (by omega) (by omega) hd (by omega) (by omega);rw[←e]at this;exact this
 ·obtain⟨M,rfl⟩:∃M,N=M+1:=⟨N-1,by omega⟩
  show Zo (M+1) (ZV (M+1) M) neg l sc sc _=_;unfold Zo;have e:jd sc 0=((sc.toNat:Nat):Int):=by unfold jd;split<;>omega
  have e2:(-sc).toNat=0:=by omega
  rw[zb,if_neg (by omega),e,Wu hN neg hd (by omega) (by omega),zc,e2,Nat.pow_zero,Nat.mul_one]
end Go.Proofs.C06
end
section
set_option maxRecDepth 100000
namespace Go.Proofs.C06
open Go Go.RowKit Go.Vc Go.Am Go.Dg
theorem zcJ{N:Nat}{x:F}{n:Nat}(hn:x.Digits%18=(n:Int))(h0:0≤x.Digits)(h18:n<18):∀(k i:Nat)(s:List UInt8),i≤n+1→n+1-i<k→Digs s→s.length=i→
  ∃l,Zt N k s (i:Int) x=some l∧Digs l∧l.length=n+1
 |0,i,s,_,hk,_,_=>by omega
 |k+1,i,s,hi,hk,hs,hl=>by
  show∃l,WF N (Zt N k) s (i:Int) x=some l∧_;unfold WF;have e0:(ze x.Digits&&decide (0<18))=true:=by simp[ze,h0]
  rw[e0,za,hn,zg (by omega) (by omega),za,zb];by_cases h:i<n+1
  ·have step:∀d:Nat,d<10→∃l,X7 N (Zt N k) s (i:Int) (d:Int) x=some l∧Digs l∧l.length=n+1:=by intro d hd;unfold X7;have hdg:=zb8 hd;rw[show(48:Int)+(d:Int)=((48+d:Nat):Int)by omega,jp (by omega) (by omega),Zq (by omega) (by omega),Bool.and_self,za];show∃l,(chk (zJ s [toByte ((48+d:Nat):Int)])<|chk (inKb .i64 ((i:Int)+1))<|Zt N k (s++[toByte ((48+d:Nat):Int)]) ((i:Int)+1) x)=some l∧_;rw[Yt,zN (by simp;omega),za,zg (by omega) (by omega),za,show(i:Int)+1=((i+1:Nat):Int)by omega];refine zcJ hn h0 h18 k (i+1) _ (by omega) (by omega) (Digs.append.2 ⟨hs,?_⟩) (by simp;omega);intro c hc;rw[List.mem_singleton]at hc;rw[hc,hdg];omega
   rw[if_pos (by omega),zb];by_cases c:i<x.Value.length
   ·have e1:(ze ((((x.Value.getD i 0).toNat:Nat):Int))&&decide (0<10))=true:=by simp[ze]
    rw[if_pos (by omega),zF c,za,zu,e1,za,show(((x.Value.getD i 0).toNat:Nat):Int)%10=(((x.Value.getD i 0).toNat%10:Nat):Int)by omega];exact step _ (Nat.mod_lt _ (by decide))
   ·rw[if_neg (by omega)];exact step 0 (by decide)
  ·rw[if_neg (by omega)];exact⟨s,rfl,hs,by omega⟩
theorem zkY{N:Nat}(hN:3000<N){x:F}(h0:0≤x.Digits):∃l,zcK N x=some l∧Digs l∧l.length=x.Digits.toNat%18+1:=by unfold zcK;exact zcJ (n:=x.Digits.toNat%18) (by omega) h0 (by omega) N 0 [] (by omega) (by omega) Digs.nil rfl
end Go.Proofs.C06
end
section
set_option maxRecDepth 100000
namespace Go.Proofs.C06
open Go Go.RowKit Go.Vc Go.Am Go.Dg
theorem zl6{b:List UInt8}{i:Nat}(h:i<b.length):b.take (i+1)=b.take i++[b.getD i 0]:=by rw[List.take_add_one,List.getElem?_eq_getElem h,List.getD_eq_getElem?_getD,List.getElem?_eq_getElem h];rfl
end Go.Proofs.C06
end
