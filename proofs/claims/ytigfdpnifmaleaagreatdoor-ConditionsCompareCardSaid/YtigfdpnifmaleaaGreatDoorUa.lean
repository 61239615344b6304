/-
  A part of the proof of the laws.
-/
import Derived.Lib.SlTrimSet
import Derived.Lib.Strings
import Derived.Test.YtigfdpnifmaleaaGreatDoorS2
import Derived.Test.YtigfdpnifmaleaaGreatDoorPa
import Derived.Laws.Entries
import Derived.Test.YtigfdpnifmaleaaGreatDoorS4
section
namespace Go.Dg
def Digs(l:uBl):Prop:=∀c∈l,48<=c.toNat/\c.toNat<=57
instance(l:uBl):Decidable (Digs l):=by unfold Digs;infer_instance
theorem Digs.nil:Digs []:=by simp[Digs]
theorem Digs.cons{c:UInt8}{l:uBl}:Digs (c::l)↔(48<=c.toNat/\c.toNat<=57)/\Digs l:=by simp[Digs]
theorem Digs.append{a b:uBl}:Digs (a++b)↔Digs a/\Digs b:=by
 unfold Digs;constructor
 ·intro h;exact⟨fun c hc=>h c (uAd _ hc),fun c hc=>h c (uAT _ hc)⟩
 ·rintro⟨h1,h2⟩ c hc;rcases mQ.1 hc with h|h
  ·exact h1 c h
  ·exact h2 c h
theorem Digs.take{l:uBl}(h:Digs l)(n:Nat):Digs (l.take n):=fun c hc=>h c (uA6 hc)
theorem Digs.drop{l:uBl}(h:Digs l)(n:Nat):Digs (l.drop n):=fun c hc=>h c (uBi hc)
theorem Digs.zeros(n:Nat):Digs (List.replicate n 48):=fun c hc=>by rw[(List.mem_replicate.1 hc).2];decide
def val(l:uBl):Nat:=l.foldl (fun a c=>10*a+(c.toNat-48)) 0
theorem VL:∀(l:uBl)(a:Nat),l.foldl (fun a c=>10*a+(c.toNat-48)) a=a*10^l.length+val l
 |[],a=>by simp[val]
 |c::l,a=>by
  have h1:=VL l (10*a+(c.toNat-48));have h2:=VL l (10*0+(c.toNat-48));have h3:val (c::l)=l.foldl (fun a c=>10*a+(c.toNat-48)) (10*0+(c.toNat-48)):=rfl;rw[List.foldl_cons,h1,h3,h2,mK,uAP,uAq,uAq];have e:10*a*10^l.length=a*(10^l.length*10):=by rw[uA3 10 a,uAg,uA3 10]
  omega
theorem ziS:val []=0:=rfl
theorem yu(c:UInt8)(l:uBl):val (c::l)=(c.toNat-48)*10^l.length+val l:=by have:=VL l (10*0+(c.toNat-48));have h3:val (c::l)=l.foldl (fun a c=>10*a+(c.toNat-48)) (10*0+(c.toNat-48)):=rfl;rw[h3,this,Nat.mul_zero,uAN]
theorem QO(a b:uBl):val (a++b)=val a*10^b.length+val b:=by
 have:val (a++b)=b.foldl (fun a c=>10*a+(c.toNat-48)) (val a):=by unfold val;rw[List.foldl_append]
 rw[this,VL]
theorem YW(l:uBl)(c:UInt8):val (l++[c])=10*val l+(c.toNat-48):=by rw[QO,yu,ziS];simp;omega
theorem pow_pos(n:Nat):0<10^n:=Nat.pow_pos (by decide)
theorem jV:∀{l:uBl},Digs l->val l<10^l.length
 |[],_=>by simp[val]
 |c::l,h=>by rw[Digs.cons]at h;have ih:=jV h.2;rw[yu,mK,uAP];have:(c.toNat-48)*10^l.length<=9*10^l.length:=nF _ (by omega);omega
theorem YV:∀n,val (List.replicate n 48)=0
 |0=>rfl
 |n+1=>by rw[nM,yu,YV n];simp
theorem yL(n:Nat)(l:uBl):val (List.replicate n 48++l)=val l:=by rw[QO,YV];simp
theorem jW(l:uBl)(n:Nat):val (l++List.replicate n 48)=val l*10^n:=by rw[QO,YV,mM];simp
theorem zfh{l:uBl}(h:Digs l)(h0:val l=0):∀c∈l,c=48:=by
 induction l with
 |nil=>simp
 |cons c l ih=>
  rw[Digs.cons]at h;rw[yu]at h0;have hp:=pow_pos l.length;have h1:(c.toNat-48)*10^l.length=0:=by omega
  have h2:c.toNat-48=0:=by
   rcases Nat.mul_eq_zero.1 h1 with h|h
   ·exact h
   ·omega
  intro x hx;rcases mX.1 hx with rfl|hx
  ·apply UInt8.toNat_inj.1;show x.toNat=48;omega
  ·exact ih h.2 (by omega) x hx
theorem zsG{l:uBl}(h:∀c∈l,c=48):val l=0:=by rw[List.eq_replicate_of_mem h,YV]
theorem zs2{a b x y P:Nat}(hx:x<P)(hy:y<P)(h:a*P+x=b*P+y):a=b/\x=y:=by
 have h1:a=b:=by
  rcases Nat.lt_trichotomy a b with h'|h'|h'
  ·have:=nF P (show a+1<=b from h');rw[uAk]at this;omega
  ·exact h'
  ·have:=nF P (show b+1<=a from h');rw[uAk]at this;omega
 subst h1;exact⟨rfl,by omega⟩
theorem ziT:∀{a b:uBl},Digs a->Digs b->a.length=b.length->val a=val b->a=b
 |[],[],_,_,_,_=>rfl
 |[],_::_,_,_,h,_=>by simp at h
 |_::_,[],_,_,h,_=>by simp at h
 |x::a,y::b,ha,hb,hl,h=>by
  rw[Digs.cons]at ha hb;simp only[mK,Nat.add_right_cancel_iff]at hl;rw[yu,yu,hl]at h;have h1:=jV ha.2;rw[hl]at h1;obtain⟨e1,e2⟩:=zs2 h1 (jV hb.2) h;rw[ziT ha.2 hb.2 hl e2];have:x.toNat=y.toNat:=by omega
  rw[UInt8.toNat_inj.1 this]
theorem yj{l:uBl}(h:Digs l){m:Nat}(hm:m<=l.length):val (l.take (l.length-m))=val l/10^m/\val (l.drop (l.length-m))=val l%10^m:=by
 have e:val l=val (l.take (l.length-m))*10^m+val (l.drop (l.length-m)):=by have:=QO (l.take (l.length-m)) (l.drop (l.length-m));rw[mR,mL]at this;rw[this];congr 3;omega
 have hlt:val (l.drop (l.length-m))<10^m:=by have:=jV (h.drop (l.length-m));rw[mL]at this;rwa [show l.length-(l.length-m)=m by omega]at this
 have hp:=pow_pos m;constructor
 ·rw[e,uA3,Nat.mul_add_div hp,Nat.div_eq_of_lt hlt,uAf]
 ·rw[e,uA3,Nat.mul_add_mod,uAi hlt]
def fmt:Nat->Nat->uBl
 |0,_=>[]
 |n+1,v=>fmt n (v/10)++[UInt8.ofNat (48+v%10)]
theorem jG:∀n v,(fmt n v).length=n
 |0,_=>rfl
 |n+1,v=>by rw[fmt,mO,jG n];rfl
theorem zcO{d:Nat}(h:d<10):(UInt8.ofNat (48+d)).toNat=48+d:=by rw[UInt8.toNat_ofNat'];omega
theorem qM:∀n v,Digs (fmt n v)
 |0,_=>Digs.nil
 |n+1,v=>by rw[fmt,Digs.append,Digs.cons];refine⟨qM n _,?_,Digs.nil⟩;rw[zcO (uA5 _ (by decide))];omega
theorem Z0:∀n v,v<10^n->val (fmt n v)=v
 |0,v,h=>by
  have:v=0:=by simpa using h
  rw[this];rfl
 |n+1,v,h=>by rw[fmt,YW,Z0 n (v/10) (by rw[uAP]at h;omega),zcO (uA5 _ (by decide))];omega
theorem zqH{l:uBl}(h:Digs l):fmt l.length (val l)=l:=
 ziT (qM _ _) h (jG _ _) (Z0 _ _ (jV h))
theorem zo5{l:uBl}{n v:Nat}(h:Digs l)(hl:l.length=n)(hv:val l=v):l=fmt n v:=by subst hl hv;exact (zqH h).symm
def tz(l:uBl):uBl:=l.dropWhile (· ==48)
theorem zd5(c:UInt8)(l:uBl):tz (c::l)=if c=48 then tz l else c::l:=by unfold tz;rw[List.dropWhile_cons];by_cases h:c=48<;>simp[h]
theorem zvx(l:uBl):Lib.trimLeftS l [48]=tz l:=by unfold Lib.trimLeftS tz;congr 1;funext c;by_cases h:c=48<;>simp[h]
theorem XX:∀l,val (tz l)=val l
 |[]=>rfl
 |c::l=>by
  rw[zd5];split
  ·rename_i h;subst h;rw[XX l,yu];simp
  ·rfl
theorem Digs.tz{l:uBl}(h:Digs l):Digs (tz l):=fun c hc=>h c ((List.dropWhile_sublist _).subset hc)
theorem zyp(l:uBl):(tz l).length<=l.length:=(List.dropWhile_sublist _).length_le
theorem zd4{l:uBl}{c:UInt8}{r:uBl}(h:tz l=c::r):c≠48:=by
 induction l with
 |nil=>cases h
 |cons x l ih=>
  rw[zd5]at h;split at h
  ·exact ih h
  ·rename_i hx;cases h;exact hx
theorem WM{l:uBl}(h:Digs l):tz l=[]↔val l=0:=by
 constructor
 ·intro e;rw[<-XX,e];rfl
 ·intro e;rcases hl:tz l with _|⟨c,r⟩
  ·rfl
  ·have:=zfh h.tz (by rw[XX];exact e) c (by rw[hl];simp);exact absurd this (zd4 hl)
theorem zb3{l:uBl}(h:Digs l)(h0:val l≠0):10^((tz l).length-1)<=val l/\val l<10^(tz l).length/\1<=(tz l).length:=by
 have hd:=h.tz;have e:=XX l;rcases hl:tz l with _|⟨c,r⟩
 ·exact absurd ((WM h).1 hl) h0
 ·have hc:=zd4 hl;rw[hl]at hd e;refine⟨?_,by rw[<-e];exact jV hd,by simp⟩;rw[<-e,yu,mK,Nat.add_sub_cancel];rw[Digs.cons]at hd;have h1:1<=c.toNat-48:=by
   have:c.toNat≠48:=fun h=>hc (UInt8.toNat_inj.1 h)
   omega
  have:=nF (10^r.length) h1;omega
theorem zzF{a b:uBl}(ha:Digs a)(hb:Digs b)(h:val a=val b):tz a=tz b:=by
 by_cases h0:val a=0
 ·rw[(WM ha).2 h0,(WM hb).2 (h▸h0)]
 ·obtain⟨a1,a2,a3⟩:=zb3 ha h0;obtain⟨b1,b2,b3⟩:=zb3 hb (h▸h0);refine ziT ha.tz hb.tz ?_ (by rw[XX,XX,h]);rcases Nat.lt_trichotomy (tz a).length (tz b).length with hl|hl|hl
  ·have:=nT (show 0<10 by decide) (show(tz a).length<=(tz b).length-1 by omega);omega
  ·exact hl
  ·have:=nT (show 0<10 by decide) (show(tz b).length<=(tz a).length-1 by omega);omega
def dstr(v:Nat):uBl:=tz (fmt v v)
theorem za6(v:Nat):v<10^v:=Nat.lt_pow_self (by decide)
theorem Qz(v:Nat):Digs (dstr v):=(qM v v).tz
theorem Jr(v:Nat):val (dstr v)=v:=by unfold dstr;rw[XX,Z0 v v (za6 v)]
theorem zmZ{l:uBl}(h:Digs l):dstr (val l)=tz l:=
 zzF (qM _ _) h (Z0 _ _ (za6 _))
theorem zi0(v:Nat):tz (dstr v)=dstr v:=by have:=zmZ (Qz v);rw[Jr]at this;exact this.symm
theorem zgt{v:Nat}:dstr v=[]↔v=0:=by rw[<-zi0,WM (Qz v),Jr]
theorem zkP{l:uBl}(h:Digs l)(h0:∀c r,l=c::r->c≠48):dstr (val l)=l:=by
 rw[zmZ h];cases l with
 |nil=>rfl
 |cons c r=>rw[zd5,if_neg (h0 c r rfl)]
theorem zm1{v:Nat}(h:v≠0):10^((dstr v).length-1)<=v/\v<10^(dstr v).length/\1<=(dstr v).length:=by have:=zb3 (Qz v) (by rw[Jr];exact h);rwa [Jr,zi0]at this
theorem zm0{v n:Nat}(h:v<10^n):(dstr v).length<=n:=by
 by_cases h0:v=0
 ·subst h0;rw[zgt.2 rfl];simp
 ·obtain⟨h1,_,h3⟩:=zm1 h0;rcases uAU n (dstr v).length with hl|hl
  ·have:=nT (show 0<10 by decide) (show n<=(dstr v).length-1 by omega);omega
  ·exact hl
end Go.Dg
end
section
namespace Go.Dg
def zL:Nat->Nat->Nat×Nat
 |0,v=>(v,0)
 |s+1,v=>if v%10=0 then zL s (v/10)else(v,s+1)
theorem qi:∀(s v:Nat),v=(zL s v).1*10^(s-(zL s v).2)/\(zL s v).2<=s/\((zL s v).2=0\/(zL s v).1%10≠0)
 |0,v=>⟨by simp[zL],mH _,.inl rfl⟩
 |s+1,v=>by
  by_cases h:v%10=0
  ·have e:zL (s+1) v=zL s (v/10):=by rw[zL,if_pos h]
   obtain⟨h1,h2,h3⟩:=qi s (v/10);rw[e];refine⟨?_,by omega,h3⟩;rw[show s+1-(zL s (v/10)).2=(s-(zL s (v/10)).2)+1 by omega,uAP,<-uAg,<-h1];omega
  ·have e:zL (s+1) v=(v,s+1):=by rw[zL,if_neg h]
   rw[e];exact⟨by simp,mH _,.inr h⟩
theorem zlG{s v:Nat}(h:v≠0):(zL s v).1≠0:=fun e=>by have:=(qi s v).1;rw[e]at this;simp at this;exact h this
def zp(neg:Bool)(v s:Nat):Bool×uBl×Nat:=if v=0 then(false,[48],0)else(neg,dstr (zL s v).1,(zL s v).2)
theorem qp(neg:Bool)(s:Nat):zp neg 0 s=(false,[48],0):=by unfold zp;rw[if_pos rfl]
theorem zcT(neg:Bool)(v s:Nat):val (zp neg v s).2.1*10^s=v*10^(zp neg v s).2.2:=by
 unfold zp;split
 ·rename_i h;subst h;simp[val]
 ·obtain⟨h1,h2,_⟩:=qi s v;dsimp only;rw[Jr];have:10^s=10^(s-(zL s v).2)*10^(zL s v).2:=by rw[<-uA4];congr 1;omega
  rw[this,<-uAg,<-h1]
theorem yK(neg:Bool)(v s:Nat):(zp neg v s).2.2<=s:=by
 unfold zp;split
 ·exact uAE _
 ·exact (qi s v).2.1
theorem zgH(neg:Bool)(v s:Nat):Digs (zp neg v s).2.1:=by
 unfold zp;split
 ·decide
 ·exact Qz _
theorem zvb(neg:Bool)(v s:Nat):(zp neg v s).2.1≠[]:=by
 unfold zp;split
 ·simp
 ·rename_i h;rw[Ne,zgt];exact zlG h
theorem zgG(neg:Bool)(v s:Nat):val (zp neg v s).2.1=0↔v=0:=by
 have h:=zcT neg v s;have p1:=pow_pos s;have p2:=pow_pos (zp neg v s).2.2;constructor
 ·intro e;rw[e,Nat.zero_mul]at h;rcases Nat.mul_eq_zero.1 h.symm with h|h
  ·exact h
  ·omega
 ·intro e;subst e;rw[qp];rfl
theorem zpC(neg:Bool)(v s:Nat):(zp neg v s).1=(neg&&decide (v≠0)):=by
 unfold zp;split
 ·rename_i h;simp[h]
 ·rename_i h;simp[h]
theorem zrm{s v:Nat}(h:s=0\/v%10≠0):zL s v=(v,s):=by
 cases s with
 |zero=>rfl
 |succ s=>rw[zL,if_neg (by rcases h with h|h;cases h;exact h)]
theorem znk(neg:Bool)(v s:Nat):zp (zp neg v s).1 (val (zp neg v s).2.1) (zp neg v s).2.2=zp neg v s:=by
 by_cases h0:v=0
 ·subst h0;rw[qp];rfl
 ·have e:zp neg v s=(neg,dstr (zL s v).1,(zL s v).2):=by unfold zp;rw[if_neg h0]
  obtain⟨_,_,h3⟩:=qi s v;rw[e];dsimp only;rw[Jr];unfold zp;rw[if_neg (zlG h0),zrm h3]
end Go.Dg
end
section
set_option maxRecDepth 100000
namespace Go.Proofs.C06
open Go Go.RowKit Go.Vc Go.Am Go.Dg
theorem jk{a b:uBl}(h:a.length+b.length<=1000000):zS a b=true:=by rw[QE];omega
theorem KO{p:UInt8->Bool}:∀{l:uBl}{c:UInt8}{r:uBl},l.dropWhile p=c::r->p c=false
 |[],_,_,h=>by cases h
 |x::l,c,r,h=>by
  rw[List.dropWhile_cons]at h;split at h
  ·exact KO h
  ·rename_i hx;cases h;simpa using hx
theorem YP{p:UInt8->Bool}:∀{l:uBl},l.dropWhile p=[]↔∀c∈l,p c=true
 |[]=>by simp
 |x::l=>by
  rw[List.dropWhile_cons];split
  ·rename_i h;rw[YP];simp[h]
  ·rename_i h;simp[h]
theorem zb5(s cs:uBl):Lib.trimS s cs=[]↔∀c∈s,cs.contains c=true:=by
 unfold Lib.trimS Lib.trimLeftS Lib.trimRightS;rw[YP];constructor
 ·intro h;have h2:s.reverse.dropWhile (cs.contains ·)=[]:=by
   rcases hr:s.reverse.dropWhile (cs.contains ·)with _|⟨c,r⟩
   ·rfl
   ·have h1:=KO hr;have:=h c (by rw[hr];simp);rw[this]at h1;cases h1
  rw[YP]at h2;exact fun c hc=>h2 c (by simpa using hc)
 ·intro h c hc;have hc:c∈s.reverse.dropWhile (cs.contains ·):=by simpa using hc
  have:=(List.dropWhile_sublist _).subset hc;exact h c (by simpa using this)
theorem VR(c:UInt8):([48,49,50,51,52,53,54,55,56,57]:uBl).contains c=true↔48<=c.toNat/\c.toNat<=57:=by
 constructor
 ·intro h;simp only[nX,List.contains_nil,uAR,nI,beq_iff_eq]at h;rcases h with rfl|rfl|rfl|rfl|rfl|rfl|rfl|rfl|rfl|rfl<;>decide
 ·rintro⟨h1,h2⟩;have:∀m:Fin 256,48<=m.val->m.val<=57->([48,49,50,51,52,53,54,55,56,57]:uBl).contains (UInt8.ofNat m.val)=true:=by decide
  have h:=this ⟨c.toNat,UInt8.toNat_lt c⟩ h1 h2;simpa using h
theorem zf0{s cs:uBl}(hs:s.length<=1000000)(hc:cs.length<=1000)(ha:K2 cs=true):JJ s cs=some (Lib.trimS s cs):=by unfold JJ;rw[decide_eq_true (show s.length<=9223372036854775807 by omega),decide_eq_true (show cs.length<4294967281 by omega),ha];rfl
theorem zgy{N:Nat}{s:uBl}(hs:s.length<=1000000):zbA N s=some (decide (s≠[]/\Digs s)):=by
 unfold zbA;rw[zg];by_cases h:s=[]
 ·rw[if_pos h];simp[h]
 ·rw[if_neg h,zf0 hs (by decide) (by decide),zc];congr 1;rw[nZ];simp only[decide_eq_true_eq];rw[zb5];constructor
  ·intro k;exact⟨h,fun c hc=>(VR c).1 (k c hc)⟩
  ·rintro⟨_,k⟩ c hc;exact (VR c).2 (k c hc)
theorem zoP{s:uBl}:Jg s [48]=some (tz s):=by unfold Jg;rw[zvx];rfl
theorem zsR{s:uBl}(hs:s.length<=1000000)(hd:Digs s):∃t,JJ s [48]=some t/\(t=[]↔val s=0):=by
 refine⟨_,zf0 hs (by decide) (by decide),?_⟩;rw[zb5];constructor
 ·intro h;exact zsG fun c hc=>by simpa using h c hc
 ·intro h c hc;rw[zfh hd h c hc];decide
theorem JM{m:Nat}(hm:m<=100000):jU [48] (m:Int)=some (List.replicate m 48):=by
 have e:Lib.repeatL [48] m=List.replicate m 48:=by
  induction m with
  |zero=>rfl
  |succ m ih=>rw[Lib.repeatL,ih (by omega),nM];rfl
 unfold jU;simp only[nA,mK,uBh];rw[decide_eq_true (show(0:Int)<=(m:Int)by omega),decide_eq_true (show(m:Int)<=9223372036854775807 by omega),decide_eq_true (by omega),e];rfl
theorem zmv(l:uBl)(c:UInt8)(hl:l.length<=1000000):Q8 (l++[c]) [48]=some (decide (c=48)):=by
 unfold Q8;rw[decide_eq_true (by simp;omega),za];congr 1;unfold Lib.hasSuffix;rw[nZ,decide_eq_true_eq,List.isSuffixOf_iff_suffix];constructor
 ·rintro⟨t,ht⟩;have:=congrArg List.getLast? ht;simp at this;exact this.symm
 ·rintro rfl;exact⟨l,rfl⟩
def yU(c:Bool×uBl×Nat):Decimal:=Decimal.mk c.1 c.2.1 (c.2.2:Int)
def zpY:Decimal:=Decimal.mk false [] 0
def nrm(neg:Bool)(l:uBl)(sc:Int):Decimal×Int:=if 62<(zp neg (val l*10^(-sc).toNat) sc.toNat).2.1.length\/62<(zp neg (val l*10^(-sc).toNat) sc.toNat).2.2 then(zpY,14)else(yU (zp neg (val l*10^(-sc).toNat) sc.toNat),0)
theorem WE(N:Nat)(neg:Bool)(l:uBl)(s:Nat)(b:Decimal):J2 N neg l (s:Int) b=some (if 62<l.length\/62<s then(zpY,14)else(Decimal.mk neg l (s:Int),0)):=by
 unfold J2 js;rw[zb];by_cases h:62<l.length\/62<s
 ·rw[if_pos h,if_pos (by split<;>omega)];rfl
 ·rw[if_neg h,if_neg (by split<;>omega)]
theorem zpr{v:Nat}(h:v≠0)(k:Nat):dstr v++List.replicate k 48=dstr (v*10^k):=by
 have e:val (dstr v++List.replicate k 48)=v*10^k:=by rw[jW,Jr]
 rw[<-e,zkP (Digs.append.2 ⟨Qz v,Digs.zeros k⟩)];intro c r hc;rcases hd:dstr v with _|⟨x,t⟩
 ·exact absurd (zgt.1 hd) h
 ·rw[hd]at hc;cases hc;exact zd4 (l:=dstr v) (by rw[zi0,hd])
theorem WF(N:Nat)(neg:Bool){l:uBl}{s:Int}(b:Decimal)(h1: -2000<=s)(hl:l.length<=2000):
  Zo N neg l s b=some (if 62<l.length+(-s).toNat\/62<s.toNat then(zpY,14)else(Decimal.mk neg (l++List.replicate (-s).toNat 48) (s.toNat:Int),0)):=by
 unfold Zo;rw[zb];by_cases h:s<0
 ·obtain⟨m,hm⟩:∃m:Nat,-s=m:=⟨(-s).toNat,by omega⟩
  have e1:s.toNat=0:=by omega
  rw[if_pos h,hm,zn (by omega) (by omega),za,JM (by omega),zc,jk (by simp;omega),za];have:=WE N neg (l++List.replicate m 48) 0 b;rw[e1,nA];rw[mO,mM]at this;exact this
 ·obtain⟨m,hm⟩:∃m:Nat,s=m:=⟨s.toNat,by omega⟩
  rw[if_neg h];have e2:(-s).toNat=0:=by omega
  rw[e2,List.replicate_zero,nE,uAf,hm,WE,nA]
theorem zbB(N:Nat)(neg:Bool)(b:Decimal):∀(m n:Nat)(l:uBl)(s:Int),s.toNat=m->m<n->Digs l->(∃c r,l=c::r/\c≠48)->l.length<=2000->s<=2000->
  J1 N n neg l s b=Zo N neg (dstr (zL s.toNat (val l)).1) (if s<0 then s else((zL s.toNat (val l)).2:Int)) b
 |m,0,l,s,hm,hn,_,_,_,_=>by omega
 |m,n+1,l,s,hm,hn,hd,⟨c,r,hcr,hc⟩,hl,hs=>by
  have hself:dstr (val l)=l:=zkP hd fun c' r' h=>by rw[hcr]at h;cases h;exact hc
  show Xu N (J1 N n) neg l s b=_;unfold Xu;rw[zb];by_cases h:0<s
  ·obtain⟨q,rfl⟩:∃q:Nat,s=(q+1:Nat):=⟨(s-1).toNat,by omega⟩
   rcases List.eq_nil_or_concat l with h0|⟨t,x,h0⟩
   ·rw[h0]at hcr;cases hcr
   ·rw[List.concat_eq_append]at h0;subst h0;rw[mO]at hl;simp only[mK,uBh]at hl;rw[Digs.append,Digs.cons]at hd;have hv:=YW t x;have hx:=hd.2.1;rw[if_pos h,zmv t x (by omega),zc,zb,nA];by_cases hx0:x=48
    ·have ht:∃c r,t=c::r/\c≠48:=by
      cases t with
      |nil=>cases hcr;exact absurd hx0 hc
      |cons c' r'=>cases hcr;exact⟨_,_,rfl,hc⟩
     have e1:(((t++[x]).length:Int)-1)=(t.length:Int):=by simp
     have e2:(((q+1:Nat):Int)-1)=(q:Int):=by omega
     have hin:zk 0 (t.length:Int) (t++[x]).length=true:=by unfold zk;simp;omega
     have e3:jm (t++[x]) (t.length:Int)=t:=by unfold jm;simp
     have e4:zL (q+1) (val (t++[x]))=zL q (val t):=by subst hx0;rw[hv,zL,if_pos (by simp)];congr 1;simp
     rw[if_pos hx0,e1,e2,zn (by omega) (by omega),za,hin,za,zn (by omega) (by omega),za,e3,
      zbB N neg b q n t (q:Int) (by simp) (by simp at hm;omega) hd.1 ht (by omega) (by omega),e4,nA,if_neg (by omega),if_neg (by omega)]
    ·have hx1:x.toNat≠48:=fun e=>hx0 (UInt8.toNat_inj.1 e)
     have e4:zL (q+1) (val (t++[x]))=(val (t++[x]),q+1):=by rw[zL,if_neg (by rw[hv];omega)]
     rw[if_neg hx0,e4,hself,if_neg (by omega)]
  ·rw[if_neg h];have e1:s.toNat=0:=by omega
   rw[e1];simp only[zL,hself];by_cases h2:s<0
   ·rw[if_pos h2]
   ·rw[if_neg h2,show s=((0:Nat):Int)by omega]
theorem zap{N:Nat}(hN:3000<N)(neg:Bool){l:uBl}(hd:Digs l)(hl:l.length<=2000){s:Int}(h1: -2000<=s)(h2:s<=2000):VS N neg l s=some (nrm neg l s):=by
 unfold VS;rw[zoP,zc,zb];by_cases h0:val l=0
 ·rw[if_pos ((WM hd).2 h0)];unfold nrm;rw[h0,Nat.zero_mul,qp];rfl
 ·have hne:tz l≠[]:=fun e=>h0 ((WM hd).1 e)
  rw[if_neg hne];obtain⟨c,r,hcr⟩:∃c r,tz l=c::r:=by
   rcases htz:tz l with _|⟨c,r⟩
   ·exact absurd htz hne
   ·exact⟨c,r,rfl⟩
  have hlen:=zyp l;rw[zbB N neg _ s.toNat N (tz l) s rfl (by omega) hd.tz ⟨c,r,hcr,zd4 hcr⟩ (by omega) h2,XX];have hsl:(dstr (zL s.toNat (val l)).1).length<=2000:=by
   have hlt:=jV hd;have hle:(zL s.toNat (val l)).1<=val l:=by have:=(qi s.toNat (val l)).1;have hp:=pow_pos (s.toNat-(zL s.toNat (val l)).2);rw[this];exact nR (Nat.le_of_eq (mV _).symm) (by rw[<-this];exact nR (Nat.mul_le_mul_left _ hp) (Nat.le_of_eq this.symm))
   have:=zm0 (v:=(zL s.toNat (val l)).1) (n:=l.length) (by omega);omega
  by_cases hs:s<0
  ·rw[if_pos hs,WF N neg _ h1 hsl];have e1:s.toNat=0:=by omega
   unfold nrm;rw[e1];have e2:zL 0 (val l)=(val l,0):=rfl;have hv:val l*10^(-s).toNat≠0:=fun e=>by
    rcases Nat.mul_eq_zero.1 e with e|e
    ·exact h0 e
    ·have:=pow_pos (-s).toNat;omega
   have e3:zp neg (val l*10^(-s).toNat) 0=(neg,dstr (val l)++List.replicate (-s).toNat 48,0):=by unfold zp;rw[if_neg hv,zpr h0];rfl
   rw[e2,e3];dsimp only;rw[mO,mM];rfl
  ·rw[if_neg hs,WF N neg _ (by omega) hsl];unfold nrm;have e1:(-s).toNat=0:=by omega
   have e3:zp neg (val l*10^(-s).toNat) s.toNat=(neg,dstr (zL s.toNat (val l)).1,(zL s.toNat (val l)).2):=by rw[e1,nU,mV];unfold zp;rw[if_neg h0]
   have e4:(-(((zL s.toNat (val l)).2:Nat):Int)).toNat=0:=by omega
   rw[e3,e4,nA,uAf,List.replicate_zero,nE];rfl
def VD(d:Decimal):Prop:=d.uA≠[]/\Digs d.uA/\d.uA.length<=62/\0<=d.uB/\d.uB<=62/\nrm d.uN d.uA d.uB=(d,0)
instance(d:Decimal):Decidable (VD d):=by unfold VD;infer_instance
theorem zqT{N:Nat}(hN:3000<N)(neg:Bool){l:uBl}(hd:Digs l)(h0:l≠[])(hl:l.length<=1000){s:Int}(h1: -1000<=s)(h2:s<=1000):zsk N neg l s=some (nrm neg l s):=by unfold zsk;rw[zgy (by omega),zc,zg,if_pos ⟨h0,hd⟩,zb,if_neg (by omega),zb,if_neg (by omega),zb,if_neg (by omega),zap hN neg hd (by omega) (by omega) (by omega),zc]
theorem VT{N:Nat}(hN:3000<N){d:Decimal}(hl:d.uA.length<=1000):zaq N d=some (if VD d then 0 else 1):=by
 unfold zaq;rw[zgy (by omega),zc,zg];by_cases h1:d.uA≠[]/\Digs d.uA
 ·rw[if_pos h1,zb];by_cases h2:62<(d.uA.length:Int)
  ·rw[if_pos h2,if_neg (fun h=>by have:=h.2.2.1;omega)]
  ·rw[if_neg h2,zb];by_cases h3:d.uB<0
   ·rw[if_pos h3,if_neg (fun h=>by have:=h.2.2.2.1;omega)]
   ·rw[if_neg h3,zb];by_cases h4:62<d.uB
    ·rw[if_pos h4,if_neg (fun h=>by have:=h.2.2.2.2.1;omega)]
    ·rw[if_neg h4,zap hN _ h1.2 (by omega) (by omega) (by omega),zc,zg];by_cases h5:(nrm d.uN d.uA d.uB).2=0
     ·rw[if_pos h5];have e:(decide ((nrm d.uN d.uA d.uB).1.uN=d.uN)&&(decide ((nrm d.uN d.uA d.uB).1.uA=d.uA)&&(decide ((nrm d.uN d.uA d.uB).1.uB=d.uB)&&true)))=decide ((nrm d.uN d.uA d.uB).1=d):=by rw[nZ];obtain⟨a,b,c⟩:=d;generalize (nrm a b c).1=y;obtain⟨p,q,r⟩:=y;simp
      rw[e,zg];by_cases h6:(nrm d.uN d.uA d.uB).1=d
      ·rw[if_pos h6,if_pos ⟨h1.1,h1.2,by omega,by omega,by omega,Prod.ext h6 h5⟩]
      ·rw[if_neg h6,if_neg (fun h=>h6 (by rw[h.2.2.2.2.2]))]
     ·rw[if_neg h5,if_neg (fun h=>h5 (by rw[h.2.2.2.2.2]))]
 ·rw[if_neg h1,if_neg (fun h=>h1 ⟨h.1,h.2.1⟩)]
theorem VD.form{d:Decimal}(h:VD d):yU (zp d.uN (val d.uA) d.uB.toNat)=d:=by
 obtain⟨_,_,_,h4,_,h6⟩:=h;unfold nrm at h6;have e:(-d.uB).toNat=0:=by omega
 rw[e,nU,mV]at h6;split at h6
 ·cases h6
 ·exact congrArg Prod.fst h6
theorem VD.of{neg:Bool}{v s:Nat}(h1:(zp neg v s).2.1.length<=62)(h2:(zp neg v s).2.2<=62):VD (yU (zp neg v s)):=by
 refine⟨zvb _ _ _,zgH _ _ _,h1,?_,?_,?_⟩
 ·show(0:Int)<=((zp neg v s).2.2:Int);omega
 ·show((zp neg v s).2.2:Int)<=62;omega
 ·unfold nrm;have e1:(-(yU (zp neg v s)).uB).toNat=0:=by show(-((zp neg v s).2.2:Int)).toNat=0;omega
  have e2:(yU (zp neg v s)).uB.toNat=(zp neg v s).2.2:=by show(((zp neg v s).2.2:Nat):Int).toNat=_;omega
  have e3:zp (yU (zp neg v s)).uN (val (yU (zp neg v s)).uA) (zp neg v s).2.2=zp neg v s:=znk neg v s;rw[e1,e2,nU,mV,e3,if_neg (by omega)]
theorem zoJ{neg:Bool}{l:uBl}{s:Int}(h1:(zp neg (val l*10^(-s).toNat) s.toNat).2.1.length<=62)(h2:(zp neg (val l*10^(-s).toNat) s.toNat).2.2<=62):
  nrm neg l s=(yU (zp neg (val l*10^(-s).toNat) s.toNat),0):=by
 unfold nrm;rw[if_neg (by omega)]
theorem Jn{neg:Bool}{v s n:Nat}(hn:1<=n)(h:v<10^n):(zp neg v s).2.1.length<=n:=by
 unfold zp;split
 ·simpa using hn
 ·dsimp only;refine zm0 ?_;have:=(qi s v).1;have hp:=pow_pos (s-(zL s v).2);have hle:(zL s v).1<=v:=by rw[this];exact nR (Nat.le_of_eq (mV _).symm) (by rw[<-this];exact nR (Nat.mul_le_mul_left _ hp) (Nat.le_of_eq this.symm))
  omega
end Go.Proofs.C06
end
section
set_option maxRecDepth 100000
namespace Go.Proofs.C06
open Go Go.RowKit Go.Vc Go.Am Go.Dg
theorem zxe{v len k:Nat}(h:v<10^len):v%10^(min len k)=v%10^k:=by
 rcases Nat.le_total k len with hk|hk
 ·rw[Nat.min_eq_right hk]
 ·rw[uAW hk,uAi h,uAi (uAx h (nT (by decide) hk))]
theorem zhG(l:uBl){m:Nat}(h:m<=l.length):jm l ((l.length:Int)-(m:Int))=l.take (l.length-m):=by unfold jm;congr 1;omega
theorem zcM(l:uBl){m:Nat}(h:m<=l.length):zY l ((l.length:Int)-(m:Int))=l.drop (l.length-m):=by unfold zY;congr 1;omega
theorem zpu{N:Nat}(hN:3000<N){d b:Decimal}(hd:VD d){m:Nat}(hm:m<=d.uA.length):
  zbC N (m:Int) d b=some ((nrm d.uN (d.uA.take (d.uA.length-m)++List.replicate m 48) d.uB).1,decide (val d.uA%10^m=0),(nrm d.uN (d.uA.take (d.uA.length-m)++List.replicate m 48) d.uB).2):=by
 obtain⟨h1,h2,h3,h4,h5,_⟩:=hd;unfold zbC;have hin1:zk ((d.uA.length:Int)-(m:Int)) (d.uA.length:Int) d.uA.length=true:=by unfold zk;simp<;>omega
 have hin2:zk 0 ((d.uA.length:Int)-(m:Int)) d.uA.length=true:=by unfold zk;simp<;>omega
 obtain⟨t,e1,e2⟩:=zsR (s:=d.uA.drop (d.uA.length-m)) (by rw[mL];omega) (h2.drop _);rw[zn (by omega) (by omega),za,hin1,za,za,hin2,za,JM (by omega),zc,zhG _ hm,zcM _ hm,
  jk (by rw[mJ,mM];omega),za,
  zap hN _ (Digs.append.2 ⟨h2.take _,Digs.zeros _⟩) (by rw[mO,mJ,mM];omega) (by omega) (by omega),zc,e1,zc]
 have e3:(t=[])↔val d.uA%10^m=0:=by rw[e2,(yj h2 hm).2]
 rw[decide_eq_decide.2 e3]
theorem zqU{N:Nat}(hN:3000<N){d:Decimal}(hd:VD d){s:Int}(hs: -1000<=s)(hs2:s<=1000):
  ∃x e,zsm N d s=some (x,decide (val d.uA%10^(d.uB-s).toNat=0),e)/\
   (d.uB<=s->x=d/\e=0)/\(s<d.uB->∃m,m=min d.uA.length (d.uB-s).toNat/\(x,e)=nrm d.uN (d.uA.take (d.uA.length-m)++List.replicate m 48) d.uB):=by
 have hd':=hd;obtain⟨h1,h2,h3,h4,h5,_⟩:=hd';unfold zsm;rw[VT hN (by omega),if_pos hd,zc,zg,if_pos rfl,zb];by_cases h:d.uB<=s
 ·rw[if_pos h];refine⟨d,0,?_,fun _=>⟨rfl,rfl⟩,fun h'=>by omega⟩;have e:(d.uB-s).toNat=0:=by omega
  rw[e,nU,Nat.mod_one,decide_eq_true rfl]
 ·rw[if_neg h,zb,if_pos (by omega),zn (by omega) (by omega),za];have em:Wc (d.uA.length:Int) (d.uB-s)=((min d.uA.length (d.uB-s).toNat:Nat):Int):=by unfold Wc;split<;>omega
  rw[em,zpu hN hd (by omega),zxe (jV h2)];exact⟨_,_,rfl,fun h'=>absurd h' h,fun _=>⟨_,rfl,rfl⟩⟩
def quo(v S:Nat)(s:Int):Nat:=v*10^(s-(S:Int)).toNat/10^((S:Int)-s).toNat
def exact(v S:Nat)(s:Int):Prop:=v%10^((S:Int)-s).toNat=0
instance(v S:Nat)(s:Int):Decidable (exact v S s):=by unfold exact;infer_instance
theorem zaV{N:Nat}{n:Nat}{s:uBl}(hn:n<=1000)(hs:s.length<=1000):Y1 N (n:Int) s=some (List.replicate (n-s.length) 48++s,true):=by
 unfold Y1;have e:js ((n:Int)-(s.length:Int)) 0=((n-s.length:Nat):Int):=by unfold js;split<;>omega
 rw[zn (by omega) (by omega),za,e,JM (by omega),zc,jk (by rw[mM];omega),za]
theorem zcn{N:Nat}(hN:3000<N){d:Decimal}(hd:VD d){n:Nat}{s:Int}(hn:n<=1000)(hs: -62<=s)(hs2:s<=62):
  (exact (val d.uA) d.uB.toNat s->∃t,places N d (n:Int) s=some (t,true)/\Digs t/\val t=quo (val d.uA) d.uB.toNat s/\n<=t.length/\t.length<=2000)/\
  (¬exact (val d.uA) d.uB.toNat s->places N d (n:Int) s=some ([],false)):=by
 obtain⟨x,e,hc,_⟩:=zqU hN hd (s:=s) (by omega) (by omega);obtain⟨h1,h2,h3,h4,h5,_⟩:=hd;have hS:((d.uB.toNat:Nat):Int)=d.uB:=by omega
 have hex:(val d.uA%10^(d.uB-s).toNat=0)↔exact (val d.uA) d.uB.toNat s:=by unfold exact;rw[hS]
 unfold places;rw[hc,zc,zg];constructor
 ·intro he;rw[if_pos (hex.2 he),zn (by omega) (by omega),za,zb];by_cases h:0<=s-d.uB
  ·obtain⟨k,hk⟩:∃k:Nat,s-d.uB=k:=⟨(s-d.uB).toNat,by omega⟩
   have e1:(d.uB-s).toNat=0:=by omega
   refine⟨List.replicate (n-(d.uA++List.replicate k 48).length) 48++(d.uA++List.replicate k 48),?_,?_,?_,?_,?_⟩
   ·rw[if_pos h,hk,JM (by omega),zc,jk (by rw[mM];omega),za,zaV hn (by rw[mO,mM];omega)]
   ·exact Digs.append.2 ⟨Digs.zeros _,Digs.append.2 ⟨h2,Digs.zeros _⟩⟩
   ·rw[yL,jW];unfold quo;rw[hS,hk,e1,nA,nU,Nat.div_one]
   ·simp only[mO,mM];omega
   ·simp only[mO,mM];omega
  ·obtain⟨k,hk⟩:∃k:Nat,d.uB-s=k:=⟨(d.uB-s).toNat,by omega⟩
   have em:js ((d.uA.length:Int)+(s-d.uB)) 0=((d.uA.length-k:Nat):Int):=by unfold js;split<;>omega
   have et:jm d.uA ((d.uA.length-k:Nat):Int)=d.uA.take (d.uA.length-k):=rfl;have hin:zk 0 ((d.uA.length-k:Nat):Int) d.uA.length=true:=by unfold zk;simp<;>omega
   have e1:(s-d.uB).toNat=0:=by omega
   refine⟨List.replicate (n-(d.uA.take (d.uA.length-k)).length) 48++d.uA.take (d.uA.length-k),?_,?_,?_,?_,?_⟩
   ·rw[if_neg h,zn (by omega) (by omega),za,em,hin,za,et,zaV hn (by rw[mJ];omega)]
   ·exact Digs.append.2 ⟨Digs.zeros _,h2.take _⟩
   ·rw[yL];unfold quo;rw[hS,e1,hk,nA,nU,mV];rcases Nat.le_total k d.uA.length with hkl|hkl
    ·exact (yj h2 hkl).1
    ·have:d.uA.length-k=0:=by omega
     rw[this,List.take_zero,ziS,Nat.div_eq_of_lt (uAx (jV h2) (nT (by decide) hkl))]
   ·simp only[mO,mM,mJ];omega
   ·simp only[mO,mM,mJ];omega
 ·intro he;rw[if_neg (fun h=>he (hex.1 h))]
theorem zhU{N:Nat}(hN:3000<N){d:Decimal}(hl:d.uA.length<=1000){n:Nat}{s:Int}(hn0:1<=n)(hn:n<=62)(hs: -62<=s)(hs2:s<=62):zfy N d (n:Int) s=some (if VD d then 0 else 1):=by
 unfold zfy;rw[VT hN hl,zc,zg];by_cases h:VD d
 ·rw[if_pos h,if_pos rfl,zb,if_neg (by omega),zb,if_neg (by omega),zb,if_neg (by omega),zb,if_neg (by omega)]
 ·rw[if_neg h,if_neg (by decide)]
def KC(d:Decimal)(n:Nat)(s:Int):Prop:=exact (val d.uA) d.uB.toNat s/\quo (val d.uA) d.uB.toNat s<10^n
instance(d:Decimal)(n:Nat)(s:Int):Decidable (KC d n s):=by unfold KC;infer_instance
theorem ztl{N:Nat}(hN:3000<N){d:Decimal}(hd:VD d){n:Nat}{s:Int}(hn0:1<=n)(hn:n<=62)(hs: -62<=s)(hs2:s<=62):zqc N d (n:Int) s=some (decide (KC d n s),0):=by
 have hlen:d.uA.length<=1000:=by have:=hd.2.2.1;omega
 obtain⟨p1,p2⟩:=zcn hN hd (n:=n) (s:=s) (by omega) hs hs2;unfold zqc;rw[zhU hN hlen hn0 hn hs hs2,if_pos hd,zc,zg,if_pos rfl];by_cases he:exact (val d.uA) d.uB.toNat s
 ·obtain⟨t,e1,e2,e3,e4,e5⟩:=p1 he;have hin:zk 0 ((t.length:Int)-(n:Int)) t.length=true:=by unfold zk;simp<;>omega
  obtain⟨q,g1,g2⟩:=zsR (s:=t.take (t.length-n)) (by rw[mJ];omega) (e2.take _);rw[e1,zc];dsimp only;rw[cond_true,zn (by omega) (by omega),za,hin,za,zhG _ e4,g1,zc];congr 2;rw[decide_eq_decide,g2,(yj e2 e4).1,e3];unfold KC;have hp:=pow_pos n;constructor
  ·intro h;exact⟨he,by rcases Nat.div_eq_zero_iff.1 h with h|h;omega;exact h⟩
  ·intro h;exact Nat.div_eq_of_lt h.2
 ·rw[p2 he,zc];dsimp only;rw[cond_false,decide_eq_false (fun h=>he h.1)]
theorem zfx{N:Nat}(hN:3000<N){d:Decimal}(hd:VD d){n:Nat}{s:Int}(hn0:1<=n)(hn:n<=62)(hs: -62<=s)(hs2:s<=62):
  Vo N d (n:Int) s=some (if KC d n s then(fmt n (quo (val d.uA) d.uB.toNat s),0)else([],14)):=by
 obtain⟨p1,_⟩:=zcn hN hd (n:=n) (s:=s) (by omega) hs hs2;unfold Vo;rw[ztl hN hd hn0 hn hs hs2,zc,zg,if_pos rfl,zg];by_cases h:KC d n s
 ·obtain⟨t,e1,e2,e3,e4,e5⟩:=p1 h.1;have hin:zk ((t.length:Int)-(n:Int)) (t.length:Int) t.length=true:=by unfold zk;simp<;>omega
  rw[if_pos h,if_pos h,e1,zc];dsimp only;rw[zn (by omega) (by omega),za,hin,za,zcM _ e4];congr 2;refine zo5 (e2.drop _) (by rw[mL];omega) ?_;rw[(yj e2 e4).2,e3,uAi h.2]
 ·rw[if_neg h,if_neg h]
theorem zbn{v S n:Nat}{s:Int}(hS:S<=62)(hs: -62<=s)(hs2:s<=62):(exact v S s/\quo v S s<10^n)↔∃q,q<10^n/\v*10^(62+s).toNat=q*10^(62+S):=by
 unfold exact quo;have hp:0<10^((S:Int)-s).toNat:=pow_pos _;have key:∀q,(v*10^(s-(S:Int)).toNat=q*10^((S:Int)-s).toNat)↔v*10^(62+s).toNat=q*10^(62+S):=by
  intro q;rcases Int.le_total s S with h|h
  ·have e1:(s-(S:Int)).toNat=0:=by omega
   have e2:62+S=((S:Int)-s).toNat+(62+s).toNat:=by omega
   rw[e1,e2,nU,mV,uA4,<-uAg];constructor
   ·intro h;rw[h]
   ·intro h;exact uAY (pow_pos _) h
  ·have e1:((S:Int)-s).toNat=0:=by omega
   have e2:(62+s).toNat=(s-(S:Int)).toNat+(62+S):=by omega
   rw[e1,e2,nU,mV,uA4,<-uAg];constructor
   ·intro h;rw[h]
   ·intro h;exact uAY (pow_pos _) h
 constructor
 ·rintro⟨h1,h2⟩;refine⟨_,h2,(key _).1 ?_⟩;rw[Nat.div_mul_cancel];exact Nat.dvd_trans (Nat.dvd_of_mod_eq_zero h1) (Nat.dvd_mul_right _ _)
 ·rintro⟨q,h1,h2⟩;have h3:=(key q).2 h2;refine⟨?_,by rw[h3,Nat.mul_div_cancel _ hp];exact h1⟩;rcases Int.le_total s S with h|h
  ·have e1:(s-(S:Int)).toNat=0:=by omega
   rw[e1,nU,mV]at h3;rw[h3];exact Nat.mul_mod_left _ _
  ·have e1:((S:Int)-s).toNat=0:=by omega
   rw[e1,nU,Nat.mod_one]
theorem ztm{v S q:Nat}{s:Int}(hS:S<=62)(hs: -62<=s)(hs2:s<=62)(h:v*10^(62+s).toNat=q*10^(62+S)):quo v S s=q:=by
 obtain⟨h1,h2⟩:=(zbn (v:=v) (n:=q+1) hS hs hs2).2 ⟨q,uAx (za6 q) (nT (by decide) (by omega)),h⟩;obtain⟨q',h3,h4⟩:=(zbn (v:=v) (n:=q+1) hS hs hs2).1 ⟨h1,h2⟩;have hq:q'=q:=uAY (pow_pos _) (h4.symm.trans h);unfold quo;rcases Int.le_total s S with h'|h'
 ·have e1:(s-(S:Int)).toNat=0:=by omega
  have e2:62+S=((S:Int)-s).toNat+(62+s).toNat:=by omega
  rw[e2,uA4,<-uAg]at h;have:=uAY (pow_pos _) h;rw[e1,nU,mV,this,Nat.mul_div_cancel _ (pow_pos _)]
 ·have e1:((S:Int)-s).toNat=0:=by omega
  have e2:(62+s).toNat=(s-(S:Int)).toNat+(62+S):=by omega
  rw[e2,uA4,<-uAg]at h;have:=uAY (pow_pos _) h;rw[e1,nU,Nat.div_one,this]
end Go.Proofs.C06
end
section
namespace Go.Dg
open Go
theorem zli(k:IntKind)(n:Int):k.wrap n=k.wrap (n% (2^k.bits:Int)):=by unfold IntKind.wrap;simp only[Int.emod_emod_of_dvd _ (Int.dvd_refl _)]
theorem znJ{k:IntKind}{m n:Int}(h:m% (2^k.bits:Int)=n% (2^k.bits:Int)):k.wrap m=k.wrap n:=by rw[zli,h,<-zli]
theorem zpZ{n:Int}(h0:0<=n)(h1:n<256):IntKind.wrap .u8 n=n:=by have e:(2^IntKind.bits .u8:Int)=256:=rfl;unfold IntKind.wrap;rw[e];simp only[show IntKind.signed .u8=false from rfl,Bool.false_and,nB,if_false];omega
theorem wrap_u64(n:Int):IntKind.wrap .u64 n=n%18446744073709551616:=by have e:(2^IntKind.bits .u64:Int)=18446744073709551616:=rfl;unfold IntKind.wrap;rw[e];simp only[show IntKind.signed .u64=false from rfl,Bool.false_and,nB,if_false]
theorem zlh(n:Int):IntKind.wrap .u8 n=n%256:=by have e:(2^IntKind.bits .u8:Int)=256:=rfl;unfold IntKind.wrap;rw[e];simp only[show IntKind.signed .u8=false from rfl,Bool.false_and,nB,if_false]
theorem wrap_i64(n:Int):IntKind.wrap .i64 n=if 9223372036854775808<=n%18446744073709551616 then n%18446744073709551616-18446744073709551616 else n%18446744073709551616:=by have e:(2^IntKind.bits .i64:Int)=18446744073709551616:=rfl;have e2:(2^(IntKind.bits .i64-1):Int)=9223372036854775808:=rfl;unfold IntKind.wrap;rw[e,e2];simp only[show IntKind.signed .i64=true from rfl,uAI,decide_eq_true_eq,ge_iff_le]
theorem zlj{n:Int}(h0: -9223372036854775808<=n)(h1:n<9223372036854775808):IntKind.wrap .i64 n=n:=by rw[wrap_i64];split<;>omega
theorem ZF(w:Nat)(x:Int):((BitVec.ofInt w x).toNat:Int)=x% (2^w:Int):=by
 rw[BitVec.toNat_ofInt,Int.toNat_of_nonneg]
 ·norm_cast
 ·exact Int.emod_nonneg _ (by have:=Nat.two_pow_pos w;omega)
theorem Ja{k:IntKind}{x:Int}{m:Nat}(hm:m<=k.bits):bits .and k x ((2^m-1:Nat):Int)=k.wrap (x% ((2^m:Nat):Int)):=by
 have h2:(BitVec.ofInt k.bits ((2^m-1:Nat):Int)).toNat=2^m-1:=by
  have h:=ZF k.bits ((2^m-1:Nat):Int);have hle:(2:Nat)^m<=2^k.bits:=nT (by decide) hm;have hp:=Nat.two_pow_pos m;have hc:(2^k.bits:Int)=((2^k.bits:Nat):Int):=by norm_cast
  rw[hc,Int.emod_eq_of_lt (by omega) (by omega)]at h;omega
 unfold bits;simp only[BitVec.toNat_and,h2,Nat.and_two_pow_sub_one_eq_mod];congr 1;rw[Int.natCast_emod,ZF];refine Int.emod_emod_of_dvd _ ?_;have:=Nat.pow_dvd_pow 2 hm;have hc:(2^k.bits:Int)=((2^k.bits:Nat):Int):=by norm_cast
 rw[hc];exact Int.natCast_dvd_natCast.2 this
theorem znp{k:IntKind}{a x:Int}{m:Nat}(hm:m<=k.bits)(ha:a% ((2^m:Nat):Int)=0)(h0:0<=x)(hx:x<((2^m:Nat):Int)):bits .or k a x=k.wrap (a+x):=by
 have hc:(2^k.bits:Int)=((2^k.bits:Nat):Int):=by norm_cast
 have hle:(2:Nat)^m<=2^k.bits:=nT (by decide) hm;obtain⟨A,hA⟩:∃A:Nat,(BitVec.ofInt k.bits a).toNat=A*2^m:=by
  have h:=ZF k.bits a;have hd:((2^m:Nat):Int)∣((BitVec.ofInt k.bits a).toNat:Int):=by apply Int.dvd_of_emod_eq_zero;rw[h,hc,Int.emod_emod_of_dvd _ (Int.natCast_dvd_natCast.2 (Nat.pow_dvd_pow 2 hm))];exact ha
  obtain⟨q,hq⟩:=Int.natCast_dvd_natCast.1 hd;exact⟨q,by rw[hq,uA3]⟩
 obtain⟨y,rfl⟩:∃y:Nat,x=y:=⟨x.toNat,by omega⟩
 have hy:y<2^m:=by omega
 have hX:(BitVec.ofInt k.bits (y:Int)).toNat=y:=by have h:=ZF k.bits (y:Int);rw[hc,Int.emod_eq_of_lt (by omega) (by omega)]at h;omega
 unfold bits;simp only[BitVec.toNat_or,hX];have hor:(BitVec.ofInt k.bits a).toNat|||y=(BitVec.ofInt k.bits a).toNat+y:=by rw[hA,<-Nat.shiftLeft_eq,Nat.shiftLeft_add_eq_or_of_lt hy]
 rw[hor];apply znJ;rw[Int.natCast_add,ZF,Int.emod_add_emod]
theorem zx6{x:Int}:bits .and .u8 x 15=x%16:=by have:=Ja (k:=.u8) (x:=x) (m:=4) (by decide);rw[show((2^4-1:Nat):Int)=15 from rfl,show((2^4:Nat):Int)=16 from rfl,zpZ (by omega) (by omega)]at this;exact this
theorem zzw{x:Int}:bits .and .i64 x 255=x%256:=by have:=Ja (k:=.i64) (x:=x) (m:=8) (by decide);rw[show((2^8-1:Nat):Int)=255 from rfl,show((2^8:Nat):Int)=256 from rfl,zlj (by omega) (by omega)]at this;exact this
theorem zyY{a x:Int}(ha:a%256=0)(h0:0<=x)(hx:x<256):bits .or .u64 a x=(a+x)%18446744073709551616:=by have:=znp (k:=.u64) (a:=a) (x:=x) (m:=8) (by decide) (by simpa using ha) h0 (by simpa using hx);rw[this,wrap_u64]
end Go.Dg
end
section
set_option maxRecDepth 100000
namespace Go.Proofs.C06
open Go Go.RowKit Go.Vc Go.Am Go.Dg
theorem jv{i n:Nat}(h:i<n):inIx (i:Int) n=true:=zw.2 ⟨by omega,by omega⟩
theorem jd(s:uBl)(i:Nat):byteAt s (i:Int)=((s.getD i 0).toNat:Int):=rfl
theorem Ym{n:Int}(h0:0<=n)(h:n<=255):inKb .u8 n=true:=yh.2 ⟨h0,h⟩
theorem zc8(c:UInt8):c.toNat<256:=UInt8.toNat_lt c
theorem zsS(c:UInt8):((c.toNat:Int).toNat.toUInt8)=c:=by simp
theorem zb6{c:Nat}:toByte (c:Int)=UInt8.ofNat c:=rfl
theorem zi3(c:UInt8):toByte ((c.toNat:Nat):Int)=c:=by unfold toByte;rw[nA];exact UInt8.ofNat_toNat
theorem zmH{l:uBl}{i:Nat}(h:i<l.length):l.getD i 0∈l:=by rw[mI,mG h];exact uBb h
theorem QB{l:uBl}(hd:Digs l){i:Nat}(h:i<l.length):48<=(l.getD i 0).toNat/\(l.getD i 0).toNat<=57:=hd _ (zmH h)
theorem zrq{l:uBl}{i:Nat}(h:i<l.length)(x:UInt8):l.take i++[x]++l.drop (i+1)=l.set i x:=by rw[List.set_eq_take_append_cons_drop,if_pos h,mP];rfl
def zl6:uBl:=[123,65,66,67,68,69,70,71,72,73]
def zcs:uBl:=[125,74,75,76,77,78,79,80,81,82]
def zow:uBl:=[48,49,50,51,52,53,54,55,56,57]
def ixC(c:UInt8):Int:=js (Lib.indexByte zl6 c) (Lib.indexByte zcs c)
def zuV(c:UInt8):Option (Bool×UInt8):=if 0<=ixC c then some (decide (0<=Lib.indexByte zcs c),zow.getD (ixC c).toNat 0)else none
def letC(ng:Bool)(c:UInt8):UInt8:=(if ng then zcs else zl6).getD (c.toNat-48) 0
theorem zy7(c:UInt8):ixC c<10:=by
 have:∀m:Fin 256,ixC (UInt8.ofNat m.val)<10:=by decide
 have h:=this ⟨c.toNat,zc8 c⟩;simpa using h
theorem zsh(ng:Bool){c:UInt8}(h:48<=c.toNat/\c.toNat<=57):zuV (letC ng c)=some (ng,c):=by
 have:∀m:Fin 256,48<=m.val->m.val<=57->zuV (letC true (UInt8.ofNat m.val))=some (true,UInt8.ofNat m.val)/\zuV (letC false (UInt8.ofNat m.val))=some (false,UInt8.ofNat m.val):=by decide
 have h2:=this ⟨c.toNat,zc8 c⟩ h.1 h.2;simp only[UInt8.ofNat_toNat]at h2;cases ng
 ·exact h2.2
 ·exact h2.1
def sgnAt(ld:Bool)(n:Nat):Nat:=if ld then 0 else n-1
theorem zuC{N:Nat}{f:form}{n:Nat}(hn:f.uA=(n:Int))(h1:1<=n)(h2:n<=100):zqL N f=some ((sgnAt f.uJ n:Nat):Int):=by
 unfold zqL sgnAt;cases f.uJ with
 |true=>rfl
 |false=>rw[cond_false,hn,zn (by omega) (by omega),za,if_neg (by simp)];congr 1;omega
theorem zlN{ld:Bool}{n:Nat}(h:1<=n):sgnAt ld n<n:=by unfold sgnAt;split<;>omega
def rZ(sg ld:Bool)(n:Nat)(b:uBl):digits×Bool:=
 if sg then match zuV (b.getD (sgnAt ld n) 0)with
  |some (ng,x)=>(digits.mk ng (b.set (sgnAt ld n) x),decide (Digs (b.set (sgnAt ld n) x)))
  |none=>(digits.mk false b,decide (Digs b))
 else(digits.mk false b,decide (Digs b))
theorem zxS{s:uBl}(hs:s.length<=1000000):∃t,JJ s [48,49,50,51,52,53,54,55,56,57]=some t/\(t=[]↔Digs s):=by refine⟨_,zf0 hs (by decide) (by decide),?_⟩;rw[zb5];exact⟨fun h c hc=>(VR c).1 (h c hc),fun h c hc=>(VR c).2 (h c hc)⟩
theorem QQ{N:Nat}(b0 b1:digits)(h:b1.s.length<=1000):Jd N b0 b1=some (b1,decide (Digs b1.s)):=by unfold Jd;obtain⟨t,h1,h2⟩:=zxS (s:=b1.s) (by omega);rw[h1,zc,decide_eq_decide.2 h2]
theorem zrd{N:Nat}{f:form}{b:uBl}{n:Nat}(hn:f.uA=(n:Int))(h1:1<=n)(h2:n<=100)(hb:b.length=n):zfk N f b=some (rZ f.uE f.uJ n b):=by
 unfold zfk rZ;rw[zuC hn h1 h2,zc];have hlt:=zlN (ld:=f.uJ) h1;generalize sgnAt f.uJ n=i at hlt;cases f.uE with
 |false=>rw[cond_false,QQ _ _ (by show b.length<=1000;omega),if_neg (by simp)]
 |true=>
  rw[cond_true,if_pos rfl,jv (by omega),za,jd];unfold ye;rw[zsS,zc,zc];have e:js (Lib.indexByte [123,65,66,67,68,69,70,71,72,73] (b.getD i 0)) (Lib.indexByte [125,74,75,76,77,78,79,80,81,82] (b.getD i 0))=ixC (b.getD i 0):=rfl;rw[e,zb];have hk:=zy7 (b.getD i 0);unfold zuV;by_cases h0:0<=ixC (b.getD i 0)
  ·obtain⟨k,hk0⟩:∃k:Nat,ixC (b.getD i 0)=k:=⟨(ixC (b.getD i 0)).toNat,by omega⟩
   have hsub:Vc.sub ([48,49,50,51,52,53,54,55,56,57]:uBl) (k:Int) ((k:Int)+1)=[zow.getD k 0]:=by
    have:∀m:Fin 10,Vc.sub ([48,49,50,51,52,53,54,55,56,57]:uBl) ((m.val:Nat):Int) (((m.val:Nat):Int)+1)=[zow.getD m.val 0]:=by decide
    exact this ⟨k,by omega⟩
   have hin1:zk 0 (i:Int) b.length=true:=by unfold zk;simp<;>omega
   have hin2:zk (k:Int) ((k:Int)+1) ([48,49,50,51,52,53,54,55,56,57]:uBl).length=true:=by unfold zk;simp<;>omega
   have hin3:zk ((i:Int)+1) (b.length:Int) b.length=true:=by unfold zk;simp<;>omega
   have ht:jm b (i:Int)=b.take i:=rfl;have hd:zY b ((i:Int)+1)=b.drop (i+1):=by unfold zY;congr 1
   rw[if_pos h0,if_pos h0,hk0,hsub,hin1,za,zn (by omega) (by omega),za,hin2,za,ht,jk (by simp[List.length_take];omega),za,zn (by omega) (by omega),za,hin3,za,hd,
    jk (by simp[List.length_take];omega),za,zrq (by omega),QQ _ _ (by show(b.set i _).length<=1000;rw[uAM];omega),nA]
   rfl
  ·rw[if_neg h0,if_neg h0,QQ _ _ (by show b.length<=1000;omega)]
def wZ(sg ld ng:Bool)(n:Nat)(s:uBl):uBl:=if sg then s.set (sgnAt ld n) (letC ng (s.getD (sgnAt ld n) 0))else s
theorem qY{n:Int}(h0:0<=n)(h1:n<256):IntKind.wrap .u8 n=n:=zpZ h0 h1
theorem zyh{sg ld ng:Bool}{n:Nat}{s:uBl}:(wZ sg ld ng n s).length=s.length:=by unfold wZ;split<;>simp
theorem zzO{sg ld ng:Bool}{n:Nat}{s:uBl}(h1:1<=n)(hs:s.length=n)(hd:Digs s):rZ sg ld n (wZ sg ld ng n s)=(digits.mk (sg&&ng) s,true):=by
 have hlt:=zlN (ld:=ld) h1;unfold rZ wZ;cases sg with
 |false=>simp[hd]
 |true=>
  simp only[if_true,uAI];have e:(s.set (sgnAt ld n) (letC ng (s.getD (sgnAt ld n) 0))).getD (sgnAt ld n) 0=letC ng (s.getD (sgnAt ld n) 0):=by rw[mI,List.getElem?_set_self (by omega)];rfl
  have e2:(s.set (sgnAt ld n) (letC ng (s.getD (sgnAt ld n) 0))).set (sgnAt ld n) (s.getD (sgnAt ld n) 0)=s:=by
   rw[List.set_set];apply uA8;intro j;rw[nO];split
   ·rename_i h;subst h;rw[if_pos (by omega),mI,mG (by omega)];rfl
   ·rfl
  rw[e,zsh ng (QB hd (by omega))];dsimp only;rw[e2,decide_eq_true hd]
def rS(ld:Bool)(n:Nat)(b:uBl):digits×Bool:=(digits.mk (decide (b.getD (if ld then 0 else n) 0=45)) (if ld then b.drop 1 else b.take n),decide ((b.getD (if ld then 0 else n) 0=43\/b.getD (if ld then 0 else n) 0=45)/\Digs (if ld then b.drop 1 else b.take n)))
theorem zeZ{c:UInt8}{k:Nat}(hk:k<256):((c.toNat:Int)=(k:Int))↔c=UInt8.ofNat k:=by
 constructor
 ·intro h;apply UInt8.toNat_inj.1;rw[UInt8.toNat_ofNat'];omega
 ·rintro rfl;rw[UInt8.toNat_ofNat'];omega
theorem XF{N:Nat}{f:form}{b:uBl}{n at_ fr:Nat}(hn:f.uA=(n:Int))(h2:n<=100)(hb:b.length=n+1)(ha:at_<b.length)(hf:fr+n<=b.length)(d:digits):
  qE N b (at_:Int) (fr:Int) f d=some (digits.mk (decide (b.getD at_ 0=45)) ((b.take (fr+n)).drop fr),decide ((b.getD at_ 0=43\/b.getD at_ 0=45)/\Digs ((b.take (fr+n)).drop fr))):=by
 unfold qE;have e1:(fr:Int)+f.uA=((fr+n:Nat):Int):=by omega
 have hin:zk (fr:Int) ((fr+n:Nat):Int) b.length=true:=by unfold zk;simp<;>omega
 have es:Vc.sub b (fr:Int) ((fr+n:Nat):Int)=(b.take (fr+n)).drop fr:=rfl;have h43:(((b.getD at_ 0).toNat:Int)=43)↔b.getD at_ 0=43:=zeZ (k:=43) (by decide);have h45:(((b.getD at_ 0).toNat:Int)=45)↔b.getD at_ 0=45:=zeZ (k:=45) (by decide);obtain⟨t,t1,t2⟩:=zxS (s:=(b.take (fr+n)).drop fr) (by rw[mL,mJ];omega);rw[jv ha,za,e1,zn (by omega) (by omega),za,hin,za,jd,es];simp only[t1,zc,za,decide_eq_decide.2 h43,decide_eq_decide.2 h45,decide_eq_decide.2 t2];clear h43 h45;generalize b.getD at_ 0=x;by_cases c1:x=43
 ·simp[c1]
 ·by_cases c2:x=45
  ·simp[c2]
  ·simp[c1,c2]
theorem ziY{N:Nat}{f:form}{b:uBl}{n:Nat}(hn:f.uA=(n:Int))(h2:n<=100)(hb:b.length=n+1):YX N f b=some (rS f.uJ n b):=by
 unfold YX rS;cases f.uJ with
 |true=>rw[cond_true];have:=XF (N:=N) hn h2 hb (at_:=0) (fr:=1) (by omega) (by omega) (digits.mk false []);rw[show(b.take (1+n)).drop 1=b.drop 1 by rw[nP (by omega)]]at this;exact this
 |false=>rw[cond_false,hn];have:=XF (N:=N) hn h2 hb (at_:=n) (fr:=0) (by omega) (by omega) (digits.mk false []);rw[uAN,uAa]at this;exact this
def wS(ld ng:Bool)(s:uBl):uBl:=if ld then(if ng then 45 else 43)::s else s++[if ng then 45 else 43]
theorem zyi{ld ng:Bool}{s:uBl}:(wS ld ng s).length=s.length+1:=by unfold wS;split<;>simp
theorem zzP{ld ng:Bool}{n:Nat}{s:uBl}(hs:s.length=n)(hd:Digs s):rS ld n (wS ld ng s)=(digits.mk ng s,true):=by
 unfold rS wS;cases ld with
 |true=>cases ng<;>simp[hd]
 |false=>
  have e:(s++[if ng then(45:UInt8)else 43]).getD n 0=if ng then 45 else 43:=by rw[mI,nD (by omega)];simp[hs]
  have e2:(s++[if ng then(45:UInt8)else 43]).take n=s:=by rw[uAc (by omega),nP (by omega)]
  simp only[nB,if_false,e,e2];cases ng<;>simp[hd]
end Go.Proofs.C06
end
section
set_option maxRecDepth 100000
namespace Go.Proofs.C06
open Go Go.RowKit Go.Vc Go.Am Go.Dg
def nib:uBl->uBl
 |[]=>[]
 |x::r=>UInt8.ofNat (x.toNat/16)::UInt8.ofNat (x.toNat%16)::nib r
theorem zeg:∀b,(nib b).length=2*b.length
 |[]=>rfl
 |x::r=>by rw[nib,mK,mK,zeg r,mK];omega
theorem zfM:∀a b,nib (a++b)=nib a++nib b
 |[],_=>rfl
 |x::a,b=>by rw[nQ,nib,nib,zfM a b];rfl
theorem zh1:∀b,∀c∈nib b,c.toNat<16
 |[],c,h=>by cases h
 |x::r,c,h=>by
  have hx:=zc8 x;rw[nib]at h;rcases mX.1 h with rfl|h
  ·rw[UInt8.toNat_ofNat'];omega
  ·rcases mX.1 h with rfl|h
   ·rw[UInt8.toNat_ofNat'];omega
   ·exact zh1 r c h
theorem qc{n:Nat}(h:n<=1000000):ja 1 n=true:=by unfold ja;simp;omega
theorem zmh{b:uBl}{i:Nat}(h:i<b.length):nib (b.take (i+1))=nib (b.take i)++[UInt8.ofNat ((b.getD i 0).toNat/16),UInt8.ofNat ((b.getD i 0).toNat%16)]:=by
 have e:b.take (i+1)=b.take i++[b.getD i 0]:=by rw[uBk,mG h,mI,mG h];rfl
 rw[e,zfM];rfl
theorem zqu(c:UInt8):([(((c.toNat:Nat):Int)/2^(Int.toNat 4)),(bits .and .u8 ((c.toNat:Nat):Int) 15)].map toByte)=[UInt8.ofNat (c.toNat/16),UInt8.ofNat (c.toNat%16)]:=by
 rw[zx6];have e1:(((c.toNat:Nat):Int)/2^(Int.toNat 4))=((c.toNat/16:Nat):Int):=by show(((c.toNat:Nat):Int)/16)=_;omega
 have e2:((c.toNat:Nat):Int)%16=((c.toNat%16:Nat):Int):=by omega
 rw[e1,e2];rfl
theorem zt6(c:UInt8):(inKb .u8 (((c.toNat:Nat):Int)/2^(Int.toNat 4))&&(inKb .u8 (bits .and .u8 ((c.toNat:Nat):Int) 15)&&true))=true:=by
 have hc:=zc8 c;rw[zx6];have e1:(((c.toNat:Nat):Int)/2^(Int.toNat 4))=((c.toNat/16:Nat):Int):=by show(((c.toNat:Nat):Int)/16)=_;omega
 rw[e1,Ym (by omega) (by omega),Ym (by omega) (by omega)];rfl
def pdig(h:uBl):uBl:=h.map fun c=>UInt8.ofNat (c.toNat+48)
def zcp(sg:Bool)(l:UInt8):Prop:=if sg then l.toNat=12\/l.toNat=13 else l.toNat=15
instance(sg:Bool)(l:UInt8):Decidable (zcp sg l):=by unfold zcp;infer_instance
def rP(sg:Bool)(D:Nat)(b:uBl):digits×Bool:=if∀c∈(nib b).take (2*b.length-1),c.toNat<=9 then(digits.mk (decide (((nib b).getD (2*b.length-1) 0).toNat=13)) ((pdig ((nib b).take (2*b.length-1))).drop (2*b.length-1-D)),decide (zcp sg ((nib b).getD (2*b.length-1) 0)/\val ((pdig ((nib b).take (2*b.length-1))).take (2*b.length-1-D))=0))else(digits.mk false [],false)
theorem zhW{h:uBl}(hh:∀c∈h,c.toNat<=9):Digs (pdig h):=by intro x hx;unfold pdig at hx;obtain⟨c,hc,rfl⟩:=uAm.1 hx;have:=hh c hc;rw[UInt8.toNat_ofNat'];omega
def zbk(h:uBl)(t:Nat)(l:UInt8):uBl:=pdig (h.take t)++h.drop t++[l]
theorem zup{h:uBl}{t:Nat}{l:UInt8}(ht:t<=h.length):(zbk h t l).length=h.length+1:=by unfold zbk pdig;simp[List.length_take,List.length_drop];omega
theorem zxj{h:uBl}{t:Nat}{l:UInt8}(ht:t<h.length):(zbk h t l).getD t 0=h.getD t 0:=by
 unfold zbk;have e:(pdig (h.take t)).length=t:=by unfold pdig;simp[List.length_take];omega
 rw[mP,mI,nD (by omega),e,Nat.sub_self,mW (by rw[mL];omega),nJ,uAf,mI]
theorem zuo{h:uBl}{t:Nat}{l:UInt8}(ht:t<h.length):(zbk h t l).set t (UInt8.ofNat ((h.getD t 0).toNat+48))=zbk h (t+1) l:=by
 have e:(pdig (h.take t)).length=t:=by unfold pdig;simp[List.length_take];omega
 have e1:h.drop t=h.getD t 0::h.drop (t+1):=by rw[uAy ht,mI,mG ht];rfl
 have e2:h.take (t+1)=h.take t++[h.getD t 0]:=by rw[uBk,mG ht,mI,mG ht];rfl
 have e3:pdig (h.take (t+1))=pdig (h.take t)++[UInt8.ofNat ((h.getD t 0).toNat+48)]:=by rw[e2];unfold pdig;rw[nV];rfl
 unfold zbk;rw[e3,e1];have:pdig (h.take t)++h.getD t 0::h.drop (t+1)++[l]=pdig (h.take t)++(h.getD t 0::(h.drop (t+1)++[l])):=by simp
 rw[this,List.set_append_right _ _ (by omega),e,Nat.sub_self,List.set_cons_zero];simp
theorem zrV{h:uBl}{l:UInt8}:zbk h h.length l=pdig h++[l]:=by unfold zbk;rw[uA2,List.drop_length,nE]
theorem zg9{N:Nat}{f:form}{D n:Nat}{h:uBl}{l:UInt8}(hD:f.uA=(D:Int))(hn:h.length=n)(hDn:D<=n)(hn2:n<=1000)(hh:∀c∈h,c.toNat<=9)(last:Int)(ok:Bool)(b1:digits):
  Za N 0 (n:Int) last ok f b1 (pdig h++[l])=some (digits.mk (decide (last=13)) ((pdig h).drop (n-D)),ok&&decide (val ((pdig h).take (n-D))=0)):=by
 have hp:(pdig h).length=n:=by unfold pdig;rw[nY];exact hn
 unfold Za;have e1:(n:Int)-f.uA=((n-D:Nat):Int):=by omega
 have es1:Vc.sub (pdig h++[l]) (0+0) ((0+0)+(((n-D:Nat):Int)-0))=(pdig h).take (n-D):=by unfold Vc.sub;rw[show((0:Int)+0).toNat=0 from rfl,uAa,show((0:Int)+0+(((n-D:Nat):Int)-0)).toNat=n-D by omega,uAc (by omega)]
 have es2:Vc.sub (pdig h++[l]) (0+((n-D:Nat):Int)) ((0+((n-D:Nat):Int))+((n:Int)-((n-D:Nat):Int)))=(pdig h).drop (n-D):=by unfold Vc.sub;rw[show((0:Int)+((n-D:Nat):Int)).toNat=n-D by omega,show(0+((n-D:Nat):Int)+((n:Int)-((n-D:Nat):Int))).toNat=n by omega,uAc (by omega),nP (by omega)]
 obtain⟨t,t1,t2⟩:=zsR (s:=(pdig h).take (n-D)) (by rw[mJ];omega) ((zhW hh).take _);rw[e1,zn (by omega) (by omega),za,decide_eq_true (show(0:Int)<=((n-D:Nat):Int)by omega),decide_eq_true (show((n-D:Nat):Int)<=(n:Int)by omega),decide_eq_true (show(n:Int)<=(n:Int)by omega),es1,es2,t1,zc];cases ok<;>simp[t2]
theorem Wi{N:Nat}{f:form}{D n:Nat}{h:uBl}{l:UInt8}(hD:f.uA=(D:Int))(hn:h.length=n)(hDn:D<=n)(hn2:n<=1000)(hs:∀c∈h,c.toNat<16)(b1:digits):∀(k t:Nat),t<=n->n-t<k->
  (∀c∈h.take t,c.toNat<=9)->
  Jt N k 0 (n:Int) ((l.toNat:Nat):Int) (n:Int) (t:Int) f b1 (zbk h t l)=
   some (if∀c∈h,c.toNat<=9 then(digits.mk (decide (l.toNat=13)) ((pdig h).drop (n-D)),decide (zcp f.uE l/\val ((pdig h).take (n-D))=0))else(digits.mk false [],false))
 |0,t,_,hk,_=>by omega
 |k+1,t,ht,hk,hin=>by
  show QR N (Jt N k) 0 (n:Int) ((l.toNat:Nat):Int) (n:Int) (t:Int) f b1 (zbk h t l)=_;unfold QR;rw[zb];by_cases h1:t<n
  ·have hlen:=zup (h:=h) (t:=t) (l:=l) (by omega);have hv:=zxj (h:=h) (t:=t) (l:=l) (by omega);have hm:h.getD t 0∈h:=zmH (by omega);have hsm:=hs _ hm;rw[if_pos (by omega),decide_eq_true (show(0:Int)<=(t:Int)by omega),decide_eq_true (show(t:Int)<(n:Int)by omega),uAH,za,show(0:Int)+(t:Int)=(t:Int)by omega,jv (by omega),za,jd,hv,zb];by_cases h2:9<(h.getD t 0).toNat
   ·rw[if_pos (by omega),if_neg (fun hall=>by have:=hall _ hm;omega)]
   ·have e:(((h.getD t 0).toNat:Nat):Int)+48=(((h.getD t 0).toNat+48:Nat):Int):=by omega
    have e2:h.take (t+1)=h.take t++[h.getD t 0]:=by rw[uBk,mG (by omega),mI,mG (by omega)];rfl
    rw[if_neg (by omega),za,za,za,e,qY (by omega) (by omega),Ym (by omega) (by omega),uAH,za,zn (by omega) (by omega),za,nA,zb6,zuo (by omega),
     show(t:Int)+1=((t+1:Nat):Int)by omega]
    refine Wi hD hn hDn hn2 hs b1 k (t+1) (by omega) (by omega) fun c hc=>?_
    rw[e2]at hc;rcases mQ.1 hc with hc|hc
    ·exact hin c hc
    ·rw[mN.1 hc];omega
  ·have htn:t=n:=by omega
   subst htn;have hall:∀c∈h,c.toNat<=9:=by rw[<-hn,uA2]at hin;exact hin
   rw[if_neg (by omega),if_pos hall];have ef:zbk h t l=pdig h++[l]:=by rw[<-hn];exact zrV
   rw[ef];simp only[zg9 hD hn hDn hn2 hall];have h13:(((l.toNat:Nat):Int)=13)↔l.toNat=13:=by omega
   have h12:(((l.toNat:Nat):Int)=12)↔l.toNat=12:=by omega
   have h15:(((l.toNat:Nat):Int)=15)↔l.toNat=15:=by omega
   simp only[h13,h12,h15];unfold zcp;generalize val ((pdig h).take (t-D))=v;cases f.uE with
   |true=>
    by_cases c1:l.toNat=12
    ·simp[c1]
    ·by_cases c2:l.toNat=13
     ·simp[c2]
     ·simp[c1,c2]
   |false=>
    by_cases c1:l.toNat=15
    ·simp[c1]
    ·simp[c1]
theorem Wj{N:Nat}(hN:3000<N){f:form}{D:Nat}{b:uBl}(hD:f.uA=(D:Int))(hb:1<=b.length)(hDn:D<=2*b.length-1)(hb2:b.length<=300)(b1:digits):∀(k t:Nat),1<=t->t<=b.length->b.length-t<k->
  qh N k (.inr (b,(b.length:Int),(t:Int),f,b1,nib (b.take t)))=some (rP f.uE D b)
 |0,t,_,_,hk=>by omega
 |k+1,t,h0,ht,hk=>by
  show YD N (qh N k) b (b.length:Int) (t:Int) f b1 (nib (b.take t))=_;unfold YD;rw[zb];by_cases h1:t<b.length
  ·have hln:(nib (b.take t)).length=2*t:=by rw[zeg,mJ];omega
   rw[if_pos (by omega),jv h1,za,jd,zt6,za,zqu,qc (by simp;omega),za,zn (by omega) (by omega),za,<-zmh h1,show(t:Int)+1=((t+1:Nat):Int)by omega];exact Wj hN hD hb hDn hb2 b1 k (t+1) (by omega) (by omega) (by omega)
  ·have htb:t=b.length:=by omega
   subst htb;rw[uA2];have hln:=zeg b;have e1:(((nib b).length:Nat):Int)-1=((2*b.length-1:Nat):Int):=by omega
   have hin:zk 0 ((2*b.length-1:Nat):Int) (nib b).length=true:=by unfold zk;simp<;>omega
   have hsp:nib b=zbk ((nib b).take (2*b.length-1)) 0 ((nib b).getD (2*b.length-1) 0):=by unfold zbk pdig;rw[List.take_zero,List.map_nil,uAs,uAa];have:=mR (2*b.length-1) (nib b);rw[uAy (by omega),nW (by omega)]at this;rw[mI,mG (by omega)];exact this.symm
   rw[if_neg (by omega),e1,zn (by omega) (by omega),za,jv (by omega),za,za,za,hin,za,jd,show((2*b.length-1:Nat):Int)-0=((2*b.length-1:Nat):Int)by omega];have:=Wi (N:=N) (f:=f) (D:=D) (n:=2*b.length-1) (h:=(nib b).take (2*b.length-1)) (l:=(nib b).getD (2*b.length-1) 0) hD (by rw[mJ];omega) hDn (by omega)
    (fun c hc=>zh1 b c (uA6 hc)) b1 N 0 (by omega) (by omega) (by simp)
   rw[<-hsp]at this;exact this
theorem znQ{N:Nat}(hN:3000<N){f:form}{D:Nat}{b:uBl}(hD:f.uA=(D:Int))(hb:1<=b.length)(hDn:D<=2*b.length-1)(hb2:b.length<=300):zaJ N f b=some (rP f.uE D b):=by
 unfold zaJ;obtain⟨M,rfl⟩:∃M,N=M+1:=⟨N-1,by omega⟩
 show YE (M+1) (qh (M+1) M) b (b.length:Int) 0 f (digits.mk false [])=_;unfold YE;have:=zmh (b:=b) (i:=0) (by omega);rw[List.take_zero]at this;rw[zb,if_pos (by omega),show(0:Int)=((0:Nat):Int)from rfl,jv (by omega),za,jd,zt6,za,zqu,qc (by simp),za,zn (by omega) (by omega),za];have e0:([]:uBl)++[UInt8.ofNat ((b.getD 0 0).toNat/16),UInt8.ofNat ((b.getD 0 0).toNat%16)]=nib (b.take (0+1)):=this.symm;rw[e0,show((0:Nat):Int)+1=((0+1:Nat):Int)by omega];exact Wj hN hD hb hDn hb2 _ M (0+1) (by omega) (by omega) (by omega)
def pk(l:UInt8):uBl->uBl
 |[]=>[]
 |[a]=>[UInt8.ofNat (16*(a.toNat-48)+l.toNat)]
 |a::c::r=>UInt8.ofNat (16*(a.toNat-48)+(c.toNat-48))::pk l r
def odd(s:uBl):uBl:=if s.length%2=0 then 48::s else s
def wP(sg ng:Bool)(s:uBl):uBl:=pk (if sg then(if ng then 13 else 12)else 15) (odd s)
theorem ztW(l:UInt8):∀s,s.length%2=1->(pk l s).length=s.length/2+1
 |[],h=>by simp at h
 |[a],_=>by simp[pk]
 |a::c::r,h=>by simp only[mK]at h;rw[pk,mK,ztW l r (by omega),mK,mK];omega
theorem zt5{l:UInt8}(hl:l.toNat<16):∀s,s.length%2=1->Digs s->nib (pk l s)=(s.map fun c=>UInt8.ofNat (c.toNat-48))++[l]
 |[],h,_=>by simp at h
 |[a],_,hd=>by
  have ha:=(Digs.cons.1 hd).1;have e:(UInt8.ofNat (16*(a.toNat-48)+l.toNat)).toNat=16*(a.toNat-48)+l.toNat:=by rw[UInt8.toNat_ofNat'];omega
  rw[pk,nib,e,show(16*(a.toNat-48)+l.toNat)/16=a.toNat-48 by omega,show(16*(a.toNat-48)+l.toNat)%16=l.toNat by omega,UInt8.ofNat_toNat];rfl
 |a::c::r,h,hd=>by
  simp only[mK]at h;rw[Digs.cons,Digs.cons]at hd;obtain⟨ha,hc,hr⟩:=hd;have e:(UInt8.ofNat (16*(a.toNat-48)+(c.toNat-48))).toNat=16*(a.toNat-48)+(c.toNat-48):=by rw[UInt8.toNat_ofNat'];omega
  rw[pk,nib,e,show(16*(a.toNat-48)+(c.toNat-48))/16=a.toNat-48 by omega,show(16*(a.toNat-48)+(c.toNat-48))%16=c.toNat-48 by omega,zt5 hl r (by omega) hr];rfl
theorem zqs(s:uBl):(odd s).length%2=1/\(odd s).length=2*(s.length/2)+1:=by
 unfold odd;split
 ·rw[mK];omega
 ·omega
theorem zt3{s:uBl}(h:Digs s):Digs (odd s):=by
 unfold odd;split
 ·exact Digs.cons.2 ⟨by decide,h⟩
 ·exact h
theorem zsL{sg ng:Bool}{s:uBl}:(wP sg ng s).length=s.length/2+1:=by unfold wP;obtain⟨h1,h2⟩:=zqs s;rw[ztW _ _ h1,h2];omega
theorem ztX{s:uBl}(hd:Digs s):pdig (s.map fun c=>UInt8.ofNat (c.toNat-48))=s:=by
 unfold pdig;rw[List.map_map];conv=>rhs;rw[<-List.map_id s]
 refine uAC fun c hc=>?_
 have h:=hd c hc;show UInt8.ofNat ((UInt8.ofNat (c.toNat-48)).toNat+48)=c;apply UInt8.toNat_inj.1;rw[UInt8.toNat_ofNat',UInt8.toNat_ofNat'];omega
theorem zzQ{sg ng:Bool}{n:Nat}{s:uBl}(hs:s.length=n)(hd:Digs s):rP sg n (wP sg ng s)=(digits.mk (sg&&ng) s,true):=by
 obtain⟨h1,h2⟩:=zqs s;have hod:=zt3 hd;have hlen:=zsL (sg:=sg) (ng:=ng) (s:=s);obtain⟨l,hl,hl16⟩:∃l:UInt8,l=(if sg then(if ng then 13 else 12)else 15)/\l.toNat<16:=⟨_,rfl,by cases sg<;>cases ng<;>decide⟩
 have hnib:nib (wP sg ng s)=((odd s).map fun c=>UInt8.ofNat (c.toNat-48))++[l]:=by unfold wP;rw[<-hl];exact zt5 hl16 _ h1 hod
 have hm:2*(wP sg ng s).length-1=(odd s).length:=by omega
 unfold rP;rw[hm,hnib];have e1:(((odd s).map fun c=>UInt8.ofNat (c.toNat-48))++[l]).take (odd s).length=(odd s).map fun c=>UInt8.ofNat (c.toNat-48):=by rw[uAc (by simp),nP (by simp)]
 have e2:(((odd s).map fun c=>UInt8.ofNat (c.toNat-48))++[l]).getD (odd s).length 0=l:=by rw[mI,nD (by simp)];simp
 rw[e1,e2,ztX hod];have hall:∀c∈(odd s).map fun c=>UInt8.ofNat (c.toNat-48),c.toNat<=9:=by intro x hx;obtain⟨c,hc,rfl⟩:=uAm.1 hx;have:=hod c hc;rw[UInt8.toNat_ofNat'];omega
 rw[if_pos hall];have e3:(odd s).drop ((odd s).length-n)=s:=by
  unfold odd;split
  ·rw[mK,hs,show n+1-n=1 by omega,List.drop_one,List.tail_cons]
  ·rw[hs,Nat.sub_self,uAa]
 have e4:val ((odd s).take ((odd s).length-n))=0:=by
  unfold odd;split
  ·rw[mK,hs,show n+1-n=1 by omega];rfl
  ·rw[hs,Nat.sub_self,List.take_zero];rfl
 rw[e3,e4,hl];cases sg<;>cases ng<;>simp[zcp]<;>decide
end Go.Proofs.C06
end
section
set_option maxRecDepth 100000
namespace Go.Proofs.C06
open Go Go.RowKit Go.Vc Go.Am Go.Dg
def bev(l:uBl):Nat:=l.foldl (fun a c=>256*a+c.toNat) 0
theorem K0(l:uBl)(c:UInt8):bev (l++[c])=256*bev l+c.toNat:=by unfold bev;rw[List.foldl_append];rfl
theorem j9{b:uBl}{i:Nat}(h:i<b.length):b.take (i+1)=b.take i++[b.getD i 0]:=by rw[uBk,mG h,mI,mG h];rfl
theorem zpH(b:uBl):∀n,n<=b.length->bev (b.take n)<256^n
 |0,_=>by simp[bev]
 |n+1,h=>by have ih:=zpH b n (by omega);have hc:=zc8 (b.getD n 0);rw[j9 (by omega),K0,uAP];omega
def be:Nat->Nat->uBl
 |0,_=>[]
 |k+1,v=>be k (v/256)++[UInt8.ofNat (v%256)]
theorem zcW:∀k v,(be k v).length=k
 |0,_=>rfl
 |k+1,v=>by rw[be,mO,zcW k];rfl
theorem zvd:∀k v,bev (be k v)=v%256^k
 |0,v=>by simp[be,bev,Nat.mod_one]
 |k+1,v=>by
  have e:(UInt8.ofNat (v%256)).toNat=v%256:=by rw[UInt8.toNat_ofNat'];omega
  rw[be,K0,zvd k,e,uAP,uA3 (256^k) 256,Nat.mod_mul];omega
theorem zx5:∀(k v i:Nat),i<k->(be k v).getD i 0=UInt8.ofNat (v/256^(k-1-i)%256)
 |0,_,i,h=>by omega
 |k+1,v,i,h=>by
  rw[be];by_cases hi:i<k
  ·rw[mI,mW (by rw[zcW];exact hi),<-mI,zx5 k _ i hi,Nat.div_div_eq_div_mul,<-Nat.pow_succ',show(k-1-i).succ=k+1-1-i by omega]
  ·have:i=k:=by omega
   subst this;rw[mI,nD (by rw[zcW];omega),zcW,Nat.sub_self,show i+1-1-i=0 by omega,nU,Nat.div_one];rfl
theorem zii:∀(t m:Nat),fmt (t+1) m=UInt8.ofNat (48+m/10^t%10)::fmt t m
 |0,m=>by simp[fmt]
 |t+1,m=>by rw[fmt,zii t (m/10),nQ,Nat.div_div_eq_div_mul,<-Nat.pow_succ'];rfl
def rB(sg:Bool)(D:Nat)(b:uBl):digits×Bool:=(digits.mk (sg&&decide (128<=(b.getD 0 0).toNat)) (fmt D (if sg&&decide (128<=(b.getD 0 0).toNat)then 256^b.length-bev b else bev b)),decide ((if sg&&decide (128<=(b.getD 0 0).toNat)then 256^b.length-bev b else bev b)<10^D))
theorem Wk{N:Nat}{D m:Nat}(hD:D<=100)(hm:m<18446744073709551616)(ng:Bool)(b0:digits):∀(k t:Nat),t<=D->D-t<k->
  Ju N k ((m/10^t:Nat):Int) ng (fmt t m) (D:Int) (t:Int) b0=some (digits.mk ng (fmt D m),decide (m<10^D))
 |0,t,_,hk=>by omega
 |k+1,t,ht,hk=>by
  show QT N (Ju N k) ((m/10^t:Nat):Int) ng (fmt t m) (D:Int) (t:Int) b0=_;unfold QT;rw[zb];have hle:m/10^t<=m:=Nat.div_le_self _ _;by_cases h1:t<D
  ·have e0:(zh ((m/10^t:Nat):Int)&&decide (0<10))=true:=by unfold zh;rw[decide_eq_true (Int.natCast_nonneg _)];rfl
   have e1:((m/10^t:Nat):Int)%10=((m/10^t%10:Nat):Int):=by omega
   have e2:((m/10^t:Nat):Int)/10=((m/10^(t+1):Nat):Int):=by rw[uAP,<-Nat.div_div_eq_div_mul];omega
   have hlt:m/10^t%10<10:=uA5 _ (by decide);have hw:IntKind.wrap .u64 (((m/10^t%10:Nat):Int)+1)=((m/10^t%10:Nat):Int)+1:=by rw[wrap_u64];omega
   have hsub:Vc.sub ([48,49,50,51,52,53,54,55,56,57]:uBl) ((m/10^t%10:Nat):Int) (((m/10^t%10:Nat):Int)+1)=[UInt8.ofNat (48+m/10^t%10)]:=by
    have:∀q:Fin 10,Vc.sub ([48,49,50,51,52,53,54,55,56,57]:uBl) ((q.val:Nat):Int) (((q.val:Nat):Int)+1)=[UInt8.ofNat (48+q.val)]:=by decide
    exact this ⟨m/10^t%10,hlt⟩
   have hin:zk ((m/10^t%10:Nat):Int) (((m/10^t%10:Nat):Int)+1) ([48,49,50,51,52,53,54,55,56,57]:uBl).length=true:=by unfold zk;simp<;>omega
   have hu:inKb .u64 ((m/10^(t+1):Nat):Int)=true:=yh.2 ⟨Int.natCast_nonneg _,by
    show _<=(18446744073709551615:Int);have h:=Nat.div_le_self m (10^(t+1));generalize m/10^(t+1)=q at h⊢;omega⟩
   have e3:[UInt8.ofNat (48+m/10^t%10)]++fmt t m=fmt (t+1) m:=(zii t m).symm;rw[if_pos (by omega),e0,za,za,e1,hw,hin,za,hsub,jk (by rw[jG];simp;omega),za,uAI,e2,hu,za,zn (by omega) (by omega),za,e3,show(t:Int)+1=((t+1:Nat):Int)by omega];exact Wk hD hm ng b0 k (t+1) (by omega) (by omega)
  ·have htD:t=D:=by omega
   subst htD;rw[if_neg (by omega)];congr 2;rw[decide_eq_decide];have hp:=pow_pos t;constructor
   ·intro h;have h:m/10^t=0:=by omega
    rcases Nat.div_eq_zero_iff.1 h with h|h
    ·omega
    ·exact h
   ·intro h;rw[Nat.div_eq_of_lt h];rfl
theorem Zt{N:Nat}(hN:3000<N){f:form}{D m:Nat}(hfD:f.uA=(D:Int))(hD:D<=100)(hm:m<18446744073709551616)(ng:Bool)(b0:digits):Zb N (m:Int) ng f b0=some (digits.mk ng (fmt D m),decide (m<10^D)):=by unfold Zb;rw[hfD];have:=Wk (N:=N) hD hm ng b0 N 0 (by omega) (by omega);rw[nU,Nat.div_one]at this;exact this
theorem zlC{b:uBl}(h:1<=b.length):∀n,1<=n->n<=b.length->bev (b.take n)/256^(n-1)=(b.getD 0 0).toNat
 |0,h0,_=>by omega
 |1,_,_=>by rw[j9 (by omega),List.take_zero,K0];simp[bev]
 |n+2,_,hn=>by have ih:=zlC h (n+1) (by omega) (by omega);have hc:=zc8 (b.getD (n+1) 0);rw[j9 (by omega),K0,show n+2-1=(n+1-1)+1 by omega,Nat.pow_succ',<-Nat.div_div_eq_div_mul,show(256*bev (b.take (n+1))+(b.getD (n+1) 0).toNat)/256=bev (b.take (n+1))by omega];exact ih
theorem Wl{N:Nat}(hN:3000<N){f:form}{D:Nat}{b:uBl}(hfD:f.uA=(D:Int))(hD:D<=100)(hb:b.length=2\/b.length=4\/b.length=8)(d:digits):∀(k t:Nat),t<=b.length->b.length-t<k->
  Jv N k b ((bev (b.take t):Nat):Int) b (b.length:Int) (t:Int) f d=some (rB f.uE D b)
 |0,t,_,hk=>by omega
 |k+1,t,ht,hk=>by
  show QU N (Jv N k) b ((bev (b.take t):Nat):Int) b (b.length:Int) (t:Int) f d=_;unfold QU;rw[zb];by_cases h1:t<b.length
  ·have hlt:=zpH b t (by omega);have hlt7:bev (b.take t)<72057594037927936:=uAx hlt (by have:=nT (show 0<256 by decide) (show t<=7 by omega);simpa using this);have hc:=zc8 (b.getD t 0);have e1:((bev (b.take t):Nat):Int)*2^(Int.toNat 8)=((256*bev (b.take t):Nat):Int):=by show((bev (b.take t):Nat):Int)*256=_;omega
   have e2:bits .or .u64 (IntKind.wrap .u64 (((bev (b.take t):Nat):Int)*2^(Int.toNat 8))) (IntKind.wrap .u64 (((b.getD t 0).toNat:Nat):Int))=((bev (b.take (t+1)):Nat):Int):=by rw[e1,wrap_u64,wrap_u64,zyY (by omega) (by omega) (by omega),j9 h1,K0];omega
   rw[if_pos (by omega),jv h1,za,zn (by omega) (by omega),za,jd,e2,show(t:Int)+1=((t+1:Nat):Int)by omega];exact Wl hN hfD hD hb d k (t+1) (by omega) (by omega)
  ·have htb:t=b.length:=by omega
   subst htb;have hlt:=zpH b b.length (mH _);have htop:=zlC (b:=b) (by omega) b.length (by omega) (mH _);rw[uA2]at hlt htop⊢;rw[if_neg (by omega),jv (show 0<b.length by omega)|>fun h=>(show inIx 0 b.length=true from h),za];have eb:byteAt b 0=(((b.getD 0 0).toNat:Nat):Int):=rfl;have e128:((128:Int)<=(((b.getD 0 0).toNat:Nat):Int))↔128<=(b.getD 0 0).toNat:=by omega
   have hno:∀ng,ng=false->Zc N b ((bev b:Nat):Int) ng f d=some (digits.mk false (fmt D (bev b)),decide (bev b<10^D)):=by rintro _ rfl;unfold Zc;rw[cond_false];refine Zt hN hfD hD ?_ _ _;rcases hb with h|h|h<;>rw[h]at hlt<;>omega
   unfold rB;cases f.uE with
   |false=>rw[cond_false,hno _ rfl];simp
   |true=>
    rw[cond_true,eb];by_cases hg:128<=(b.getD 0 0).toNat
    ·rw[decide_eq_true (e128.2 hg),decide_eq_true hg];simp only[uAH,if_true];unfold Zc;rw[cond_true,zb];rcases hb with h|h|h
     ·rw[h]at hlt htop⊢;have w1:IntKind.wrap .u64 (-((bev b:Nat):Int))=18446744073709551616-((bev b:Nat):Int):=by rw[wrap_u64];omega
      have w2:IntKind.wrap .u64 (IntKind.wrap .u64 (1*2^(8*((2:Nat):Int)).toNat)-1)=((2^16-1:Nat):Int):=by decide
      have w3:bits .and .u64 (18446744073709551616-((bev b:Nat):Int)) ((2^16-1:Nat):Int)=((256^2-bev b:Nat):Int):=by rw[Ja (by decide),wrap_u64];omega
      rw[if_pos (by decide),zn (by decide) (by decide),za,show(zh (8*((2:Nat):Int))&&Nat.ble (8*((2:Nat):Int)).toNat 64)=true by decide,za,w1,w2,w3];exact Zt hN hfD hD (by omega) _ _
     ·rw[h]at hlt htop⊢;have w1:IntKind.wrap .u64 (-((bev b:Nat):Int))=18446744073709551616-((bev b:Nat):Int):=by rw[wrap_u64];omega
      have w2:IntKind.wrap .u64 (IntKind.wrap .u64 (1*2^(8*((4:Nat):Int)).toNat)-1)=((2^32-1:Nat):Int):=by decide
      have w3:bits .and .u64 (18446744073709551616-((bev b:Nat):Int)) ((2^32-1:Nat):Int)=((256^4-bev b:Nat):Int):=by rw[Ja (by decide),wrap_u64];omega
      rw[if_pos (by decide),zn (by decide) (by decide),za,show(zh (8*((4:Nat):Int))&&Nat.ble (8*((4:Nat):Int)).toNat 64)=true by decide,za,w1,w2,w3];exact Zt hN hfD hD (by omega) _ _
     ·rw[h]at hlt htop⊢;have w1:IntKind.wrap .u64 (-((bev b:Nat):Int))=((256^8-bev b:Nat):Int):=by rw[wrap_u64];omega
      rw[if_neg (by decide),w1];exact Zt hN hfD hD (by omega) _ _
    ·rw[decide_eq_false (fun h=>hg (e128.1 h)),decide_eq_false hg,hno _ rfl];simp
theorem znR{N:Nat}(hN:3000<N){f:form}{D:Nat}{b:uBl}(hfD:f.uA=(D:Int))(hD:D<=100)(hb:b.length=2\/b.length=4\/b.length=8):zaK N f b=some (rB f.uE D b):=by unfold zaK;exact Wl hN hfD hD hb _ N 0 (by omega) (by omega)
def wB(k:Nat)(ng:Bool)(s:uBl):uBl:=be k (if ng then(18446744073709551616-val s)%18446744073709551616 else val s)
theorem zyj{k:Nat}{ng:Bool}{s:uBl}:(wB k ng s).length=k:=zcW _ _
def binW(n:Nat):Nat:=if n<=4 then 2 else if n<=9 then 4 else 8
theorem zzR{sg ng:Bool}{n:Nat}{s:uBl}(hn:n<=18)(hs:s.length=n)(hd:Digs s)(hsg:ng=true->sg=true/\val s≠0):rB sg n (wB (binW n) ng s)=(digits.mk ng s,true):=by
 have hv:=jV hd;rw[hs]at hv;have hf:fmt n (val s)=s:=by rw[<-hs];exact zqH hd
 have hbound:binW n=2/\val s<10000\/binW n=4/\val s<1000000000\/binW n=8/\val s<1000000000000000000:=by
  unfold binW;have hle:∀m,n<=m->val s<10^m:=fun m hm=>uAx hv (nT (by decide) hm)
  by_cases h4:n<=4
  ·rw[if_pos h4];exact .inl ⟨rfl,by simpa using hle 4 h4⟩
  ·rw[if_neg h4];by_cases h9:n<=9
   ·rw[if_pos h9];exact .inr (.inl ⟨rfl,by simpa using hle 9 h9⟩)
   ·rw[if_neg h9];exact .inr (.inr ⟨rfl,by simpa using hle 18 hn⟩)
 have key:∀(k x:Nat),1<=k->(be k x).getD 0 0=UInt8.ofNat (x/256^(k-1)%256):=fun k x h=>zx5 k x 0 (by omega)
 have kb:∀(k x:Nat),1<=k->((be k x).getD 0 0).toNat=x/256^(k-1)%256:=fun k x h=>by rw[key k x h,UInt8.toNat_ofNat'];omega
 unfold rB wB;rw[zvd,zcW];cases ng with
 |false=>
  have h0:¬128<=((be (binW n) (val s)).getD 0 0).toNat:=by rcases hbound with⟨hk,hb⟩|⟨hk,hb⟩|⟨hk,hb⟩<;>rw[hk,kb _ _ (by decide)]<;>simp<;>omega
  have h1:val s%256^binW n=val s:=uAi (by rcases hbound with⟨hk,hb⟩|⟨hk,hb⟩|⟨hk,hb⟩<;>rw[hk]<;>omega);simp only[nB,if_false,decide_eq_false h0,Bool.and_false,h1,hf,decide_eq_true hv]
 |true=>
  obtain⟨rfl,h00⟩:=hsg rfl;have hx:(18446744073709551616-val s)%18446744073709551616=18446744073709551616-val s:=by rcases hbound with⟨hk,hb⟩|⟨hk,hb⟩|⟨hk,hb⟩<;>omega
  have h0:128<=((be (binW n) (18446744073709551616-val s)).getD 0 0).toNat:=by rcases hbound with⟨hk,hb⟩|⟨hk,hb⟩|⟨hk,hb⟩<;>rw[hk,kb _ _ (by decide)]<;>simp<;>omega
  have h1:256^binW n-(18446744073709551616-val s)%256^binW n=val s:=by rcases hbound with⟨hk,hb⟩|⟨hk,hb⟩|⟨hk,hb⟩<;>rw[hk]<;>omega
  simp only[if_true,hx,decide_eq_true h0,uAH,h1,hf,decide_eq_true hv]
end Go.Proofs.C06
end
section
set_option maxRecDepth 100000
namespace Go.Proofs.C06
open Go Go.RowKit Go.Vc Go.Am Go.Dg
theorem Wu(N:Nat)(neg:Bool)(b:Decimal):∀(m n:Nat)(l:uBl)(s:Nat),s=m->m<n->Digs l->(∃c r,l=c::r/\c≠48)->l.length<=2000->s<=2000->
  JO N n neg l (s:Int) b=some (Decimal.mk neg (dstr (zL s (val l)).1) ((zL s (val l)).2:Int))
 |m,0,l,s,hm,hn,_,_,_,_=>by omega
 |m,n+1,l,s,hm,hn,hd,⟨c,r,hcr,hc⟩,hl,hs=>by
  have hself:dstr (val l)=l:=zkP hd fun c' r' h=>by rw[hcr]at h;cases h;exact hc
  show Q7 N (JO N n) neg l (s:Int) b=_;unfold Q7;rw[zb];cases s with
  |zero=>rw[if_neg (by omega)];simp only[zL,hself]
  |succ q=>
   rcases List.eq_nil_or_concat l with h0|⟨t,x,h0⟩
   ·rw[h0]at hcr;cases hcr
   ·rw[List.concat_eq_append]at h0;subst h0;rw[mO]at hl;simp only[mK,uBh]at hl;rw[Digs.append,Digs.cons]at hd;have hv:=YW t x;have hx:=hd.2.1;have e1:(((t++[x]).length:Int)-1)=(t.length:Int):=by simp
    have hat:byteAt (t++[x]) (t.length:Int)=((x.toNat:Nat):Int):=by unfold byteAt;rw[nA,mI,nD (mH _),Nat.sub_self];rfl
    have h48:(((x.toNat:Nat):Int)=48)↔x=48:=zeZ (k:=48) (by decide);rw[if_pos (by omega),e1,zn (by omega) (by omega),za,jv (by simp),za,hat,zb];by_cases hx0:x=48
    ·have ht:∃c r,t=c::r/\c≠48:=by
      cases t with
      |nil=>cases hcr;exact absurd hx0 hc
      |cons c' r'=>cases hcr;exact⟨_,_,rfl,hc⟩
     have hin:zk 0 (t.length:Int) (t++[x]).length=true:=by unfold zk;simp<;>omega
     have e3:jm (t++[x]) (t.length:Int)=t:=by unfold jm;simp
     have e4:zL (q+1) (val (t++[x]))=zL q (val t):=by subst hx0;rw[hv,zL,if_pos (by simp)];congr 1;simp
     rw[if_pos (h48.2 hx0),za,hin,za,show((q+1:Nat):Int)-1=(q:Int)by omega,zn (by omega) (by omega),za,e3,
      Wu N neg b q n t q rfl (by omega) hd.1 ht (by omega) (by omega),e4]
    ·have hx1:x.toNat≠48:=fun e=>hx0 (UInt8.toNat_inj.1 e)
     have e4:zL (q+1) (val (t++[x]))=(val (t++[x]),q+1):=by rw[zL,if_neg (by rw[hv];omega)]
     rw[if_neg (fun h=>hx0 (h48.1 h)),e4,hself]
theorem Wv{N:Nat}(hN:3000<N)(neg:Bool){l:uBl}(hd:Digs l)(hl:l.length<=2000){s:Nat}(hs:s<=2000)(h0:l=[]\/∃c r,l=c::r/\c≠48)(b:Decimal):
  JP N neg l (s:Int) b=some (yU (zp neg (val l) s)):=by
 unfold JP;rw[zb];rcases h0 with rfl|⟨c,r,hcr,hc⟩
 ·rw[if_pos rfl];rw[ziS,qp];rfl
 ·rw[if_neg (by rw[hcr];simp),Wu N neg b s N l s rfl (by omega) hd ⟨c,r,hcr,hc⟩ hl hs];have hv:val l≠0:=fun e=>by have:=(WM hd).2 e;rw[hcr,zd5,if_neg hc]at this;cases this
  unfold zp;rw[if_neg hv];rfl
theorem Wt{N:Nat}(hN:3000<N)(neg:Bool){s:Nat}(hs:s<=2000)(b:Decimal):∀(n:Nat)(l:uBl),l.length<n->Digs l->l.length<=2000->
  JN N n neg l (s:Int) b=some (yU (zp neg (val l) s))
 |0,l,h,_,_=>by omega
 |n+1,l,h,hd,hl=>by
  show Q6 N (JN N n) neg l (s:Int) b=_;unfold Q6;rw[zb];cases l with
  |nil=>rw[if_neg (by simp)];exact Wv hN neg hd hl hs (.inl rfl) b
  |cons c r=>
   have h48:(((c.toNat:Nat):Int)=48)↔c=48:=zeZ (k:=48) (by decide);have eb:byteAt (c::r) 0=((c.toNat:Nat):Int):=rfl;have hin0:inIx 0 (c::r).length=true:=jv (i:=0) (by simp);simp only[mK]at h hl;rw[if_pos (by simp<;>omega),hin0,za,eb,zb];by_cases hc:c=48
   ·have hin:zk 1 ((c::r).length:Int) (c::r).length=true:=by unfold zk;simp<;>omega
    have ed:zY (c::r) 1=r:=rfl;rw[if_pos (h48.2 hc),hin,za,ed,Wt hN neg hs b n r (by omega) (Digs.cons.1 hd).2 (by omega)];subst hc;rw[yu];simp
   ·rw[if_neg (fun h=>hc (h48.1 h))];exact Wv hN neg hd (by simp<;>omega) hs (.inr ⟨c,r,rfl,hc⟩) b
theorem zf3{N:Nat}(hN:3000<N)(neg:Bool){l:uBl}(hd:Digs l)(hl:l.length<=2000){s:Nat}(hs:s<=2000):zeU N neg l (s:Int)=some (yU (zp neg (val l) s)):=by unfold zeU;exact Wt hN neg hs _ N l (by omega) hd hl
theorem zba{N:Nat}(hN:3000<N)(neg:Bool){sc:Int}(hs1: -1000<=sc)(hs:sc<=1000)(b:Decimal):∀(n k:Nat)(l:uBl),k<n->k<=1000->Digs l->l.length+k<=2000->((0<= -(k:Int)->k=0))->
  Jf N n neg l sc (-(k:Int)) b=some (yU (zp neg (val l*10^k) sc.toNat))
 |0,k,_,h,_,_,_,_=>by omega
 |n+1,k,l,h,hk,hd,hl,_=>by
  show ZJ N (Jf N n) neg l sc (-(k:Int)) b=_;unfold ZJ;rw[zb];cases k with
  |zero=>
   have e:js sc 0=((sc.toNat:Nat):Int):=by unfold js;split<;>omega
   rw[if_neg (by omega),e,zf3 hN neg hd (by omega) (by omega),zc,nU,mV]
  |succ k=>
   have e: -((k+1:Nat):Int)+1= -(k:Int):=by omega
   rw[if_pos (by omega),jk (by simp;omega),za,zn (by omega) (by omega),za,e,
    zba hN neg hs1 hs b n k (l++[48]) (by omega) (by omega) (Digs.append.2 ⟨hd,by decide⟩) (by simp;omega) (by omega),YW,uAP]
   have:(10*val l+((48:UInt8).toNat-48))*10^k=val l*(10^k*10):=by rw[show(48:UInt8).toNat-48=0 from rfl,uAf,uA3 10,uAg,uA3 10]
   rw[this]
theorem zrN{N:Nat}(hN:3000<N)(neg:Bool){l:uBl}(hd:Digs l)(hl:l.length<=500){sc:Int}(hs1: -1000<=sc)(hs:sc<=1000):zcx N neg l sc=some (yU (zp neg (val l*10^(-sc).toNat) sc.toNat)):=by
 unfold zcx;by_cases h:sc<=0
 ·have e:sc= -((-sc).toNat:Int):=by omega
  have:=zba (N:=N) hN neg hs1 hs (Decimal.mk false [] 0) N (-sc).toNat l (by omega) (by omega) hd (by omega) (by omega);rw[<-e]at this;exact this
 ·obtain⟨M,rfl⟩:∃M,N=M+1:=⟨N-1,by omega⟩
  show ZJ (M+1) (Jf (M+1) M) neg l sc sc _=_;unfold ZJ;have e:js sc 0=((sc.toNat:Nat):Int):=by unfold js;split<;>omega
  have e2:(-sc).toNat=0:=by omega
  rw[zb,if_neg (by omega),e,zf3 hN neg hd (by omega) (by omega),zc,e2,nU,mV]
end Go.Proofs.C06
end
section
set_option maxRecDepth 100000
namespace Go.Proofs.C06
open Go Go.RowKit Go.Vc Go.Am Go.Dg
theorem znT{b:uBl}{i:Nat}(h:i<b.length):b.take (i+1)=b.take i++[b.getD i 0]:=by rw[uBk,mG h,mI,mG h];rfl
end Go.Proofs.C06
end
section
set_option maxRecDepth 100000
namespace Go.Proofs.C06
open Go Go.RowKit Go.Vc Go.Am Go.Dg
theorem zdp{N:Nat}{x:F}{n:Nat}(hn:x.uA%18=(n:Int))(h0:0<=x.uA)(h18:n<18):∀(k i:Nat)(s:uBl),i<=n+1->n+1-i<k->Digs s->s.length=i->
  ∃l,ZL N k s (i:Int) x=some l/\Digs l/\l.length=n+1
 |0,i,s,_,hk,_,_=>by omega
 |k+1,i,s,hi,hk,hs,hl=>by
  show∃l,zaj N (ZL N k) s (i:Int) x=some l/\_;unfold zaj;have e0:(zh x.uA&&decide (0<18))=true:=by simp[zh,h0]
  rw[e0,za,hn,zn (by omega) (by omega),za,zb];by_cases h:i<n+1
  ·have step:∀d:Nat,d<10->∃l,KD N (ZL N k) s (i:Int) (d:Int) x=some l/\Digs l/\l.length=n+1:=by intro d hd;unfold KD;have hdg:=zcO hd;rw[show(48:Int)+(d:Int)=((48+d:Nat):Int)by omega,qY (by omega) (by omega),Ym (by omega) (by omega),uAH,za];show∃l,(chk (zS s [toByte ((48+d:Nat):Int)])<|chk (inKb .i64 ((i:Int)+1))<|ZL N k (s++[toByte ((48+d:Nat):Int)]) ((i:Int)+1) x)=some l/\_;rw[zb6,jk (by simp;omega),za,zn (by omega) (by omega),za,show(i:Int)+1=((i+1:Nat):Int)by omega];refine zdp hn h0 h18 k (i+1) _ (by omega) (by omega) (Digs.append.2 ⟨hs,?_⟩) (by simp;omega);intro c hc;rw[mN]at hc;rw[hc,hdg];omega
   rw[if_pos (by omega),zb];by_cases c:i<x.Value.length
   ·have e1:(zh ((((x.Value.getD i 0).toNat:Nat):Int))&&decide (0<10))=true:=by simp[zh]
    rw[if_pos (by omega),jv c,za,jd,e1,za,show(((x.Value.getD i 0).toNat:Nat):Int)%10=(((x.Value.getD i 0).toNat%10:Nat):Int)by omega];exact step _ (uA5 _ (by decide))
   ·rw[if_neg (by omega)];exact step 0 (by decide)
  ·rw[if_neg (by omega)];exact⟨s,rfl,hs,by omega⟩
theorem zmL{N:Nat}(hN:3000<N){x:F}(h0:0<=x.uA):∃l,zil N x=some l/\Digs l/\l.length=x.uA.toNat%18+1:=by unfold zil;exact zdp (n:=x.uA.toNat%18) (by omega) h0 (by omega) N 0 [] (by omega) (by omega) Digs.nil rfl
end Go.Proofs.C06
end
