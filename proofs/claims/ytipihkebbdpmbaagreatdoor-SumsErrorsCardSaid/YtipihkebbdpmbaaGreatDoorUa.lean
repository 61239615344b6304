/-
  A part of the proof of the laws.
-/
import Derived.Lib.SlTrimSet
import Derived.Lib.Strings
import Derived.Test.YtipihkebbdpmbaaGreatDoorS2
import Derived.Test.YtipihkebbdpmbaaGreatDoorPa
import Derived.Laws.Entries
import Derived.Test.YtipihkebbdpmbaaGreatDoorS4
section
namespace Go.Dg
def Digs(l:List UInt8):Prop:=∀c∈l,48≤c.toNat∧c.toNat≤57
instance(l:List UInt8):Decidable (Digs l):=by unfold Digs;infer_instance
theorem Digs.nil:Digs []:=by simp[Digs]
theorem Digs.cons{c:UInt8}{l:List UInt8}:Digs (c::l)↔(48≤c.toNat∧c.toNat≤57)∧Digs l:=by simp[Digs]
theorem Digs.append{a b:List UInt8}:Digs (a++b)↔Digs a∧Digs b:=by
 unfold Digs;constructor
 ·intro h;exact⟨fun c hc=>h c (List.mem_append_left _ hc),fun c hc=>h c (List.mem_append_right _ hc)⟩
 ·rintro⟨h1,h2⟩ c hc;rcases List.mem_append.1 hc with h|h
  ·exact h1 c h
  ·exact h2 c h
theorem Digs.take{l:List UInt8}(h:Digs l)(n:Nat):Digs (l.take n):=fun c hc=>h c (List.mem_of_mem_take hc)
theorem Digs.drop{l:List UInt8}(h:Digs l)(n:Nat):Digs (l.drop n):=fun c hc=>h c (List.mem_of_mem_drop hc)
theorem Digs.zeros(n:Nat):Digs (List.replicate n 48):=fun c hc=>by rw[(List.mem_replicate.1 hc).2];decide
def val(l:List UInt8):Nat:=l.foldl (fun a c=>10*a+(c.toNat-48)) 0
theorem VV:∀(l:List UInt8)(a:Nat),l.foldl (fun a c=>10*a+(c.toNat-48)) a=a*10^l.length+val l
 |[],a=>by simp[val]
 |c::l,a=>by
  have h1:=VV l (10*a+(c.toNat-48));have h2:=VV l (10*0+(c.toNat-48));have h3:val (c::l)=l.foldl (fun a c=>10*a+(c.toNat-48)) (10*0+(c.toNat-48)):=rfl;rw[List.foldl_cons,h1,h3,h2,List.length_cons,Nat.pow_succ,Nat.add_mul,Nat.add_mul];have e:10*a*10^l.length=a*(10^l.length*10):=by rw[Nat.mul_comm 10 a,Nat.mul_assoc,Nat.mul_comm 10]
  omega
theorem zay:val []=0:=rfl
theorem jN(c:UInt8)(l:List UInt8):val (c::l)=(c.toNat-48)*10^l.length+val l:=by have:=VV l (10*0+(c.toNat-48));have h3:val (c::l)=l.foldl (fun a c=>10*a+(c.toNat-48)) (10*0+(c.toNat-48)):=rfl;rw[h3,this,Nat.mul_zero,Nat.zero_add]
theorem qY(a b:List UInt8):val (a++b)=val a*10^b.length+val b:=by
 have:val (a++b)=b.foldl (fun a c=>10*a+(c.toNat-48)) (val a):=by unfold val;rw[List.foldl_append]
 rw[this,VV]
theorem zax(l:List UInt8)(c:UInt8):val (l++[c])=10*val l+(c.toNat-48):=by rw[qY,jN,zay];simp;omega
theorem pow_pos(n:Nat):0<10^n:=Nat.pow_pos (by decide)
theorem jw:∀{l:List UInt8},Digs l→val l<10^l.length
 |[],_=>by simp[val]
 |c::l,h=>by rw[Digs.cons]at h;have ih:=jw h.2;rw[jN,List.length_cons,Nat.pow_succ];have:(c.toNat-48)*10^l.length≤9*10^l.length:=Nat.mul_le_mul_right _ (by omega);omega
theorem Y2:∀n,val (List.replicate n 48)=0
 |0=>rfl
 |n+1=>by rw[List.replicate_succ,jN,Y2 n];simp
theorem qX(n:Nat)(l:List UInt8):val (List.replicate n 48++l)=val l:=by rw[qY,Y2];simp
theorem jG(l:List UInt8)(n:Nat):val (l++List.replicate n 48)=val l*10^n:=by rw[qY,Y2,List.length_replicate];simp
theorem zgy{l:List UInt8}(h:Digs l)(h0:val l=0):∀c∈l,c=48:=by
 induction l with
 |nil=>simp
 |cons c l ih=>
  rw[Digs.cons]at h;rw[jN]at h0;have hp:=pow_pos l.length;have h1:(c.toNat-48)*10^l.length=0:=by omega
  have h2:c.toNat-48=0:=by
   rcases Nat.mul_eq_zero.1 h1 with h|h
   ·exact h
   ·omega
  intro x hx;rcases List.mem_cons.1 hx with rfl|hx
  ·apply UInt8.toNat_inj.1;show x.toNat=48;omega
  ·exact ih h.2 (by omega) x hx
theorem zuE{l:List UInt8}(h:∀c∈l,c=48):val l=0:=by rw[List.eq_replicate_of_mem h,Y2]
theorem zuZ{a b x y P:Nat}(hx:x<P)(hy:y<P)(h:a*P+x=b*P+y):a=b∧x=y:=by
 have h1:a=b:=by
  rcases Nat.lt_trichotomy a b with h'|h'|h'
  ·have:=Nat.mul_le_mul_right P (show a+1≤b from h');rw[Nat.succ_mul]at this;omega
  ·exact h'
  ·have:=Nat.mul_le_mul_right P (show b+1≤a from h');rw[Nat.succ_mul]at this;omega
 subst h1;exact⟨rfl,by omega⟩
theorem zj1:∀{a b:List UInt8},Digs a→Digs b→a.length=b.length→val a=val b→a=b
 |[],[],_,_,_,_=>rfl
 |[],_::_,_,_,h,_=>by simp at h
 |_::_,[],_,_,h,_=>by simp at h
 |x::a,y::b,ha,hb,hl,h=>by
  rw[Digs.cons]at ha hb;simp only[List.length_cons,Nat.add_right_cancel_iff]at hl;rw[jN,jN,hl]at h;have h1:=jw ha.2;rw[hl]at h1;obtain⟨e1,e2⟩:=zuZ h1 (jw hb.2) h;rw[zj1 ha.2 hb.2 hl e2];have:x.toNat=y.toNat:=by omega
  rw[UInt8.toNat_inj.1 this]
theorem jm{l:List UInt8}(h:Digs l){m:Nat}(hm:m≤l.length):val (l.take (l.length-m))=val l/10^m∧val (l.drop (l.length-m))=val l%10^m:=by
 have e:val l=val (l.take (l.length-m))*10^m+val (l.drop (l.length-m)):=by have:=qY (l.take (l.length-m)) (l.drop (l.length-m));rw[List.take_append_drop,List.length_drop]at this;rw[this];congr 3;omega
 have hlt:val (l.drop (l.length-m))<10^m:=by have:=jw (h.drop (l.length-m));rw[List.length_drop]at this;rwa [show l.length-(l.length-m)=m by omega]at this
 have hp:=pow_pos m;constructor
 ·rw[e,Nat.mul_comm,Nat.mul_add_div hp,Nat.div_eq_of_lt hlt,Nat.add_zero]
 ·rw[e,Nat.mul_comm,Nat.mul_add_mod,Nat.mod_eq_of_lt hlt]
def fmt:Nat→Nat→List UInt8
 |0,_=>[]
 |n+1,v=>fmt n (v/10)++[UInt8.ofNat (48+v%10)]
theorem zK:∀n v,(fmt n v).length=n
 |0,_=>rfl
 |n+1,v=>by rw[fmt,List.length_append,zK n];rfl
theorem QF{d:Nat}(h:d<10):(UInt8.ofNat (48+d)).toNat=48+d:=by rw[UInt8.toNat_ofNat'];omega
theorem jI:∀n v,Digs (fmt n v)
 |0,_=>Digs.nil
 |n+1,v=>by rw[fmt,Digs.append,Digs.cons];refine⟨jI n _,?_,Digs.nil⟩;rw[QF (Nat.mod_lt _ (by decide))];omega
theorem yZ:∀n v,v<10^n→val (fmt n v)=v
 |0,v,h=>by
  have:v=0:=by simpa using h
  rw[this];rfl
 |n+1,v,h=>by rw[fmt,zax,yZ n (v/10) (by rw[Nat.pow_succ]at h;omega),QF (Nat.mod_lt _ (by decide))];omega
theorem zsL{l:List UInt8}(h:Digs l):fmt l.length (val l)=l:=
 zj1 (jI _ _) h (zK _ _) (yZ _ _ (jw h))
theorem zyz{l:List UInt8}{n v:Nat}(h:Digs l)(hl:l.length=n)(hv:val l=v):l=fmt n v:=by subst hl hv;exact (zsL h).symm
def tz(l:List UInt8):List UInt8:=l.dropWhile (· ==48)
theorem zew(c:UInt8)(l:List UInt8):tz (c::l)=if c=48 then tz l else c::l:=by unfold tz;rw[List.dropWhile_cons];by_cases h:c=48<;>simp[h]
theorem zzA(l:List UInt8):Lib.trimLeftS l [48]=tz l:=by unfold Lib.trimLeftS tz;congr 1;funext c;by_cases h:c=48<;>simp[h]
theorem X9:∀l,val (tz l)=val l
 |[]=>rfl
 |c::l=>by
  rw[zew];split
  ·rename_i h;subst h;rw[X9 l,jN];simp
  ·rfl
theorem Digs.tz{l:List UInt8}(h:Digs l):Digs (tz l):=fun c hc=>h c ((List.dropWhile_sublist _).subset hc)
theorem zD6(l:List UInt8):(tz l).length≤l.length:=(List.dropWhile_sublist _).length_le
theorem zev{l:List UInt8}{c:UInt8}{r:List UInt8}(h:tz l=c::r):c≠48:=by
 induction l with
 |nil=>cases h
 |cons x l ih=>
  rw[zew]at h;split at h
  ·exact ih h
  ·rename_i hx;cases h;exact hx
theorem WJ{l:List UInt8}(h:Digs l):tz l=[]↔val l=0:=by
 constructor
 ·intro e;rw[←X9,e];rfl
 ·intro e;rcases hl:tz l with _|⟨c,r⟩
  ·rfl
  ·have:=zgy h.tz (by rw[X9];exact e) c (by rw[hl];simp);exact absurd this (zev hl)
theorem zcR{l:List UInt8}(h:Digs l)(h0:val l≠0):10^((tz l).length-1)≤val l∧val l<10^(tz l).length∧1≤(tz l).length:=by
 have hd:=h.tz;have e:=X9 l;rcases hl:tz l with _|⟨c,r⟩
 ·exact absurd ((WJ h).1 hl) h0
 ·have hc:=zev hl;rw[hl]at hd e;refine⟨?_,by rw[←e];exact jw hd,by simp⟩;rw[←e,jN,List.length_cons,Nat.add_sub_cancel];rw[Digs.cons]at hd;have h1:1≤c.toNat-48:=by
   have:c.toNat≠48:=fun h=>hc (UInt8.toNat_inj.1 h)
   omega
  have:=Nat.mul_le_mul_right (10^r.length) h1;omega
theorem zFn{a b:List UInt8}(ha:Digs a)(hb:Digs b)(h:val a=val b):tz a=tz b:=by
 by_cases h0:val a=0
 ·rw[(WJ ha).2 h0,(WJ hb).2 (h▸h0)]
 ·obtain⟨a1,a2,a3⟩:=zcR ha h0;obtain⟨b1,b2,b3⟩:=zcR hb (h▸h0);refine zj1 ha.tz hb.tz ?_ (by rw[X9,X9,h]);rcases Nat.lt_trichotomy (tz a).length (tz b).length with hl|hl|hl
  ·have:=Nat.pow_le_pow_right (show 0<10 by decide) (show(tz a).length≤(tz b).length-1 by omega);omega
  ·exact hl
  ·have:=Nat.pow_le_pow_right (show 0<10 by decide) (show(tz b).length≤(tz a).length-1 by omega);omega
def dstr(v:Nat):List UInt8:=tz (fmt v v)
theorem JQ(v:Nat):v<10^v:=Nat.lt_pow_self (by decide)
theorem QC(v:Nat):Digs (dstr v):=(jI v v).tz
theorem Jw(v:Nat):val (dstr v)=v:=by unfold dstr;rw[X9,yZ v v (JQ v)]
theorem zos{l:List UInt8}(h:Digs l):dstr (val l)=tz l:=
 zFn (jI _ _) h (yZ _ _ (JQ _))
theorem zka(v:Nat):tz (dstr v)=dstr v:=by have:=zos (QC v);rw[Jw]at this;exact this.symm
theorem zhU{v:Nat}:dstr v=[]↔v=0:=by rw[←zka,WJ (QC v),Jw]
theorem zmo{l:List UInt8}(h:Digs l)(h0:∀c r,l=c::r→c≠48):dstr (val l)=l:=by
 rw[zos h];cases l with
 |nil=>rfl
 |cons c r=>rw[zew,if_neg (h0 c r rfl)]
theorem zou{v:Nat}(h:v≠0):10^((dstr v).length-1)≤v∧v<10^(dstr v).length∧1≤(dstr v).length:=by have:=zcR (QC v) (by rw[Jw];exact h);rwa [Jw,zka]at this
theorem zot{v n:Nat}(h:v<10^n):(dstr v).length≤n:=by
 by_cases h0:v=0
 ·subst h0;rw[zhU.2 rfl];simp
 ·obtain⟨h1,_,h3⟩:=zou h0;rcases Nat.lt_or_ge n (dstr v).length with hl|hl
  ·have:=Nat.pow_le_pow_right (show 0<10 by decide) (show n≤(dstr v).length-1 by omega);omega
  ·exact hl
end Go.Dg
end
section
namespace Go.Dg
def zR:Nat→Nat→Nat×Nat
 |0,v=>(v,0)
 |s+1,v=>if v%10=0 then zR s (v/10)else(v,s+1)
theorem qf:∀(s v:Nat),v=(zR s v).1*10^(s-(zR s v).2)∧(zR s v).2≤s∧((zR s v).2=0∨(zR s v).1%10≠0)
 |0,v=>⟨by simp[zR],Nat.le_refl _,.inl rfl⟩
 |s+1,v=>by
  by_cases h:v%10=0
  ·have e:zR (s+1) v=zR s (v/10):=by rw[zR,if_pos h]
   obtain⟨h1,h2,h3⟩:=qf s (v/10);rw[e];refine⟨?_,by omega,h3⟩;rw[show s+1-(zR s (v/10)).2=(s-(zR s (v/10)).2)+1 by omega,Nat.pow_succ,←Nat.mul_assoc,←h1];omega
  ·have e:zR (s+1) v=(v,s+1):=by rw[zR,if_neg h]
   rw[e];exact⟨by simp,Nat.le_refl _,.inr h⟩
theorem zm8{s v:Nat}(h:v≠0):(zR s v).1≠0:=fun e=>by have:=(qf s v).1;rw[e]at this;simp at this;exact h this
def canon(neg:Bool)(v s:Nat):Bool×List UInt8×Nat:=if v=0 then(false,[48],0)else(neg,dstr (zR s v).1,(zR s v).2)
theorem qm(neg:Bool)(s:Nat):canon neg 0 s=(false,[48],0):=by unfold canon;rw[if_pos rfl]
theorem Wc(neg:Bool)(v s:Nat):val (canon neg v s).2.1*10^s=v*10^(canon neg v s).2.2:=by
 unfold canon;split
 ·rename_i h;subst h;simp[val]
 ·obtain⟨h1,h2,_⟩:=qf s v;dsimp only;rw[Jw];have:10^s=10^(s-(zR s v).2)*10^(zR s v).2:=by rw[←Nat.pow_add];congr 1;omega
  rw[this,←Nat.mul_assoc,←h1]
theorem ji(neg:Bool)(v s:Nat):(canon neg v s).2.2≤s:=by
 unfold canon;split
 ·exact Nat.zero_le _
 ·exact (qf s v).2.1
theorem zq8(neg:Bool)(v s:Nat):Digs (canon neg v s).2.1:=by
 unfold canon;split
 ·decide
 ·exact QC _
theorem zzf(neg:Bool)(v s:Nat):(canon neg v s).2.1≠[]:=by
 unfold canon;split
 ·simp
 ·rename_i h;rw[Ne,zhU];exact zm8 h
theorem zh4(neg:Bool)(v s:Nat):val (canon neg v s).2.1=0↔v=0:=by
 have h:=Wc neg v s;have p1:=pow_pos s;have p2:=pow_pos (canon neg v s).2.2;constructor
 ·intro e;rw[e,Nat.zero_mul]at h;rcases Nat.mul_eq_zero.1 h.symm with h|h
  ·exact h
  ·omega
 ·intro e;subst e;rw[qm];rfl
theorem zh5(neg:Bool)(v s:Nat):(canon neg v s).1=(neg&&decide (v≠0)):=by
 unfold canon;split
 ·rename_i h;simp[h]
 ·rename_i h;simp[h]
theorem ztm{s v:Nat}(h:s=0∨v%10≠0):zR s v=(v,s):=by
 cases s with
 |zero=>rfl
 |succ s=>rw[zR,if_neg (by rcases h with h|h;cases h;exact h)]
theorem zoK(neg:Bool)(v s:Nat):canon (canon neg v s).1 (val (canon neg v s).2.1) (canon neg v s).2.2=canon neg v s:=by
 by_cases h0:v=0
 ·subst h0;rw[qm];rfl
 ·have e:canon neg v s=(neg,dstr (zR s v).1,(zR s v).2):=by unfold canon;rw[if_neg h0]
  obtain⟨_,_,h3⟩:=qf s v;rw[e];dsimp only;rw[Jw];unfold canon;rw[if_neg (zm8 h0),ztm h3]
end Go.Dg
end
section
set_option maxRecDepth 100000
namespace Go.Proofs.C06
open Go Go.RowKit Go.Vc Go.Am Go.Dg
theorem zO{a b:List UInt8}(h:a.length+b.length≤1000000):jg a b=true:=by rw[QK];omega
theorem KU{p:UInt8→Bool}:∀{l:List UInt8}{c:UInt8}{r:List UInt8},l.dropWhile p=c::r→p c=false
 |[],_,_,h=>by cases h
 |x::l,c,r,h=>by
  rw[List.dropWhile_cons]at h;split at h
  ·exact KU h
  ·rename_i hx;cases h;simpa using hx
theorem YW{p:UInt8→Bool}:∀{l:List UInt8},l.dropWhile p=[]↔∀c∈l,p c=true
 |[]=>by simp
 |x::l=>by
  rw[List.dropWhile_cons];split
  ·rename_i h;rw[YW];simp[h]
  ·rename_i h;simp[h]
theorem zcS(s cs:List UInt8):Lib.trimS s cs=[]↔∀c∈s,cs.contains c=true:=by
 unfold Lib.trimS Lib.trimLeftS Lib.trimRightS;rw[YW];constructor
 ·intro h;have h2:s.reverse.dropWhile (cs.contains ·)=[]:=by
   rcases hr:s.reverse.dropWhile (cs.contains ·)with _|⟨c,r⟩
   ·rfl
   ·have h1:=KU hr;have:=h c (by rw[hr];simp);rw[this]at h1;cases h1
  rw[YW]at h2;exact fun c hc=>h2 c (by simpa using hc)
 ·intro h c hc;have hc:c∈s.reverse.dropWhile (cs.contains ·):=by simpa using hc
  have:=(List.dropWhile_sublist _).subset hc;exact h c (by simpa using this)
theorem Wb(c:UInt8):([48,49,50,51,52,53,54,55,56,57]:List UInt8).contains c=true↔48≤c.toNat∧c.toNat≤57:=by
 constructor
 ·intro h;simp only[List.contains_cons,List.contains_nil,Bool.or_false,Bool.or_eq_true,beq_iff_eq]at h;rcases h with rfl|rfl|rfl|rfl|rfl|rfl|rfl|rfl|rfl|rfl<;>decide
 ·rintro⟨h1,h2⟩;have:∀m:Fin 256,48≤m.val→m.val≤57→([48,49,50,51,52,53,54,55,56,57]:List UInt8).contains (UInt8.ofNat m.val)=true:=by decide
  have h:=this ⟨c.toNat,UInt8.toNat_lt c⟩ h1 h2;simpa using h
theorem zhq{s cs:List UInt8}(hs:s.length≤1000000)(hc:cs.length≤1000)(ha:K6 cs=true):Z4 s cs=some (Lib.trimS s cs):=by unfold Z4;rw[decide_eq_true (show s.length≤9223372036854775807 by omega),decide_eq_true (show cs.length<4294967281 by omega),ha];rfl
theorem zhZ{N:Nat}{s:List UInt8}(hs:s.length≤1000000):zcw N s=some (decide (s≠[]∧Digs s)):=by
 unfold zcw;rw[zp];by_cases h:s=[]
 ·rw[if_pos h];simp[h]
 ·rw[if_neg h,zhq hs (by decide) (by decide),zc];congr 1;rw[Bool.eq_iff_iff];simp only[decide_eq_true_eq];rw[zcS];constructor
  ·intro k;exact⟨h,fun c hc=>(Wb c).1 (k c hc)⟩
  ·rintro⟨_,k⟩ c hc;exact (Wb c).2 (k c hc)
theorem zqh{s:List UInt8}:Jo s [48]=some (tz s):=by unfold Jo;rw[zzA];rfl
theorem zrx{s:List UInt8}(hs:s.length≤1000000)(hd:Digs s):∃t,Z4 s [48]=some t∧(t=[]↔val s=0):=by
 refine⟨_,zhq hs (by decide) (by decide),?_⟩;rw[zcS];constructor
 ·intro h;exact zuE fun c hc=>by simpa using h c hc
 ·intro h c hc;rw[zgy hd h c hc];decide
theorem JT{m:Nat}(hm:m≤100000):jX [48] (m:Int)=some (List.replicate m 48):=by
 have e:Lib.repeatL [48] m=List.replicate m 48:=by
  induction m with
  |zero=>rfl
  |succ m ih=>rw[Lib.repeatL,ih (by omega),List.replicate_succ];rfl
 unfold jX;simp only[Int.toNat_natCast,List.length_cons,List.length_nil];rw[decide_eq_true (show(0:Int)≤(m:Int)by omega),decide_eq_true (show(m:Int)≤9223372036854775807 by omega),decide_eq_true (by omega),e];rfl
theorem znZ(l:List UInt8)(c:UInt8)(hl:l.length≤1000000):Xf (l++[c]) [48]=some (decide (c=48)):=by
 unfold Xf;rw[decide_eq_true (by simp;omega),za];congr 1;unfold Lib.hasSuffix;rw[Bool.eq_iff_iff,decide_eq_true_eq,List.isSuffixOf_iff_suffix];constructor
 ·rintro⟨t,ht⟩;have:=congrArg List.getLast? ht;simp at this;exact this.symm
 ·rintro rfl;exact⟨l,rfl⟩
def yQ(c:Bool×List UInt8×Nat):Decimal:=Decimal.mk c.1 c.2.1 (c.2.2:Int)
def zrp:Decimal:=Decimal.mk false [] 0
def nrm(neg:Bool)(l:List UInt8)(sc:Int):Decimal×Int:=if 62<(canon neg (val l*10^(-sc).toNat) sc.toNat).2.1.length∨62<(canon neg (val l*10^(-sc).toNat) sc.toNat).2.2 then(zrp,14)else(yQ (canon neg (val l*10^(-sc).toNat) sc.toNat),0)
theorem WC(N:Nat)(neg:Bool)(l:List UInt8)(s:Nat)(b:Decimal):J6 N neg l (s:Int) b=some (if 62<l.length∨62<s then(zrp,14)else(Decimal.mk neg l (s:Int),0)):=by
 unfold J6 jP;rw[zb];by_cases h:62<l.length∨62<s
 ·rw[if_pos h,if_pos (by split<;>omega)];rfl
 ·rw[if_neg h,if_neg (by split<;>omega)]
theorem zqX{v:Nat}(h:v≠0)(k:Nat):dstr v++List.replicate k 48=dstr (v*10^k):=by
 have e:val (dstr v++List.replicate k 48)=v*10^k:=by rw[jG,Jw]
 rw[←e,zmo (Digs.append.2 ⟨QC v,Digs.zeros k⟩)];intro c r hc;rcases hd:dstr v with _|⟨x,t⟩
 ·exact absurd (zhU.1 hd) h
 ·rw[hd]at hc;cases hc;exact zev (l:=dstr v) (by rw[zka,hd])
theorem WD(N:Nat)(neg:Bool){l:List UInt8}{s:Int}(b:Decimal)(h1: -2000≤s)(hl:l.length≤2000):
  Zn N neg l s b=some (if 62<l.length+(-s).toNat∨62<s.toNat then(zrp,14)else(Decimal.mk neg (l++List.replicate (-s).toNat 48) (s.toNat:Int),0)):=by
 unfold Zn;rw[zb];by_cases h:s<0
 ·obtain⟨m,hm⟩:∃m:Nat,-s=m:=⟨(-s).toNat,by omega⟩
  have e1:s.toNat=0:=by omega
  rw[if_pos h,hm,zu (by omega) (by omega),za,JT (by omega),zc,zO (by simp;omega),za];have:=WC N neg (l++List.replicate m 48) 0 b;rw[e1,Int.toNat_natCast];rw[List.length_append,List.length_replicate]at this;exact this
 ·obtain⟨m,hm⟩:∃m:Nat,s=m:=⟨s.toNat,by omega⟩
  rw[if_neg h];have e2:(-s).toNat=0:=by omega
  rw[e2,List.replicate_zero,List.append_nil,Nat.add_zero,hm,WC,Int.toNat_natCast]
theorem zcx(N:Nat)(neg:Bool)(b:Decimal):∀(m n:Nat)(l:List UInt8)(s:Int),s.toNat=m→m<n→Digs l→(∃c r,l=c::r∧c≠48)→l.length≤2000→s≤2000→
  J5 N n neg l s b=Zn N neg (dstr (zR s.toNat (val l)).1) (if s<0 then s else((zR s.toNat (val l)).2:Int)) b
 |m,0,l,s,hm,hn,_,_,_,_=>by omega
 |m,n+1,l,s,hm,hn,hd,⟨c,r,hcr,hc⟩,hl,hs=>by
  have hself:dstr (val l)=l:=zmo hd fun c' r' h=>by rw[hcr]at h;cases h;exact hc
  show Xy N (J5 N n) neg l s b=_;unfold Xy;rw[zb];by_cases h:0<s
  ·obtain⟨q,rfl⟩:∃q:Nat,s=(q+1:Nat):=⟨(s-1).toNat,by omega⟩
   rcases List.eq_nil_or_concat l with h0|⟨t,x,h0⟩
   ·rw[h0]at hcr;cases hcr
   ·rw[List.concat_eq_append]at h0;subst h0;rw[List.length_append]at hl;simp only[List.length_cons,List.length_nil]at hl;rw[Digs.append,Digs.cons]at hd;have hv:=zax t x;have hx:=hd.2.1;rw[if_pos h,znZ t x (by omega),zc,zb,Int.toNat_natCast];by_cases hx0:x=48
    ·have ht:∃c r,t=c::r∧c≠48:=by
      cases t with
      |nil=>cases hcr;exact absurd hx0 hc
      |cons c' r'=>cases hcr;exact⟨_,_,rfl,hc⟩
     have e1:(((t++[x]).length:Int)-1)=(t.length:Int):=by simp
     have e2:(((q+1:Nat):Int)-1)=(q:Int):=by omega
     have hin:zw 0 (t.length:Int) (t++[x]).length=true:=by unfold zw;simp;omega
     have e3:jz (t++[x]) (t.length:Int)=t:=by unfold jz;simp
     have e4:zR (q+1) (val (t++[x]))=zR q (val t):=by subst hx0;rw[hv,zR,if_pos (by simp)];congr 1;simp
     rw[if_pos hx0,e1,e2,zu (by omega) (by omega),za,hin,za,zu (by omega) (by omega),za,e3,
      zcx N neg b q n t (q:Int) (by simp) (by simp at hm;omega) hd.1 ht (by omega) (by omega),e4,Int.toNat_natCast,if_neg (by omega),if_neg (by omega)]
    ·have hx1:x.toNat≠48:=fun e=>hx0 (UInt8.toNat_inj.1 e)
     have e4:zR (q+1) (val (t++[x]))=(val (t++[x]),q+1):=by rw[zR,if_neg (by rw[hv];omega)]
     rw[if_neg hx0,e4,hself,if_neg (by omega)]
  ·rw[if_neg h];have e1:s.toNat=0:=by omega
   rw[e1];simp only[zR,hself];by_cases h2:s<0
   ·rw[if_pos h2]
   ·rw[if_neg h2,show s=((0:Nat):Int)by omega]
theorem Zo{N:Nat}(hN:3000<N)(neg:Bool){l:List UInt8}(hd:Digs l)(hl:l.length≤2000){s:Int}(h1: -2000≤s)(h2:s≤2000):qc N neg l s=some (nrm neg l s):=by
 unfold qc;rw[zqh,zc,zb];by_cases h0:val l=0
 ·rw[if_pos ((WJ hd).2 h0)];unfold nrm;rw[h0,Nat.zero_mul,qm];rfl
 ·have hne:tz l≠[]:=fun e=>h0 ((WJ hd).1 e)
  rw[if_neg hne];obtain⟨c,r,hcr⟩:∃c r,tz l=c::r:=by
   rcases htz:tz l with _|⟨c,r⟩
   ·exact absurd htz hne
   ·exact⟨c,r,rfl⟩
  have hlen:=zD6 l;rw[zcx N neg _ s.toNat N (tz l) s rfl (by omega) hd.tz ⟨c,r,hcr,zev hcr⟩ (by omega) h2,X9];have hsl:(dstr (zR s.toNat (val l)).1).length≤2000:=by
   have hlt:=jw hd;have hle:(zR s.toNat (val l)).1≤val l:=by have:=(qf s.toNat (val l)).1;have hp:=pow_pos (s.toNat-(zR s.toNat (val l)).2);rw[this];exact Nat.le_trans (Nat.le_of_eq (Nat.mul_one _).symm) (by rw[←this];exact Nat.le_trans (Nat.mul_le_mul_left _ hp) (Nat.le_of_eq this.symm))
   have:=zot (v:=(zR s.toNat (val l)).1) (n:=l.length) (by omega);omega
  by_cases hs:s<0
  ·rw[if_pos hs,WD N neg _ h1 hsl];have e1:s.toNat=0:=by omega
   unfold nrm;rw[e1];have e2:zR 0 (val l)=(val l,0):=rfl;have hv:val l*10^(-s).toNat≠0:=fun e=>by
    rcases Nat.mul_eq_zero.1 e with e|e
    ·exact h0 e
    ·have:=pow_pos (-s).toNat;omega
   have e3:canon neg (val l*10^(-s).toNat) 0=(neg,dstr (val l)++List.replicate (-s).toNat 48,0):=by unfold canon;rw[if_neg hv,zqX h0];rfl
   rw[e2,e3];dsimp only;rw[List.length_append,List.length_replicate];rfl
  ·rw[if_neg hs,WD N neg _ (by omega) hsl];unfold nrm;have e1:(-s).toNat=0:=by omega
   have e3:canon neg (val l*10^(-s).toNat) s.toNat=(neg,dstr (zR s.toNat (val l)).1,(zR s.toNat (val l)).2):=by rw[e1,Nat.pow_zero,Nat.mul_one];unfold canon;rw[if_neg h0]
   have e4:(-(((zR s.toNat (val l)).2:Nat):Int)).toNat=0:=by omega
   rw[e3,e4,Int.toNat_natCast,Nat.add_zero,List.replicate_zero,List.append_nil];rfl
def VD(d:Decimal):Prop:=d.Digits≠[]∧Digs d.Digits∧d.Digits.length≤62∧0≤d.Scale∧d.Scale≤62∧nrm d.Neg d.Digits d.Scale=(d,0)
instance(d:Decimal):Decidable (VD d):=by unfold VD;infer_instance
theorem zge{N:Nat}(hN:3000<N)(neg:Bool){l:List UInt8}(hd:Digs l)(h0:l≠[])(hl:l.length≤1000){s:Int}(h1: -1000≤s)(h2:s≤1000):zq0 N neg l s=some (nrm neg l s):=by unfold zq0;rw[zhZ (by omega),zc,zp,if_pos ⟨h0,hd⟩,zb,if_neg (by omega),zb,if_neg (by omega),zb,if_neg (by omega),Zo hN neg hd (by omega) (by omega) (by omega),zc]
theorem Js{N:Nat}(hN:3000<N){d:Decimal}(hl:d.Digits.length≤1000):Xz N d=some (if VD d then 0 else 1):=by
 unfold Xz;rw[zhZ (by omega),zc,zp];by_cases h1:d.Digits≠[]∧Digs d.Digits
 ·rw[if_pos h1,zb];by_cases h2:62<(d.Digits.length:Int)
  ·rw[if_pos h2,if_neg (fun h=>by have:=h.2.2.1;omega)]
  ·rw[if_neg h2,zb];by_cases h3:d.Scale<0
   ·rw[if_pos h3,if_neg (fun h=>by have:=h.2.2.2.1;omega)]
   ·rw[if_neg h3,zb];by_cases h4:62<d.Scale
    ·rw[if_pos h4,if_neg (fun h=>by have:=h.2.2.2.2.1;omega)]
    ·rw[if_neg h4,Zo hN _ h1.2 (by omega) (by omega) (by omega),zc,zp];by_cases h5:(nrm d.Neg d.Digits d.Scale).2=0
     ·rw[if_pos h5];have e:(decide ((nrm d.Neg d.Digits d.Scale).1.Neg=d.Neg)&&(decide ((nrm d.Neg d.Digits d.Scale).1.Digits=d.Digits)&&(decide ((nrm d.Neg d.Digits d.Scale).1.Scale=d.Scale)&&true)))=decide ((nrm d.Neg d.Digits d.Scale).1=d):=by rw[Bool.eq_iff_iff];obtain⟨a,b,c⟩:=d;generalize (nrm a b c).1=y;obtain⟨p,q,r⟩:=y;simp
      rw[e,zp];by_cases h6:(nrm d.Neg d.Digits d.Scale).1=d
      ·rw[if_pos h6,if_pos ⟨h1.1,h1.2,by omega,by omega,by omega,Prod.ext h6 h5⟩]
      ·rw[if_neg h6,if_neg (fun h=>h6 (by rw[h.2.2.2.2.2]))]
     ·rw[if_neg h5,if_neg (fun h=>h5 (by rw[h.2.2.2.2.2]))]
 ·rw[if_neg h1,if_neg (fun h=>h1 ⟨h.1,h.2.1⟩)]
theorem VD.form{d:Decimal}(h:VD d):yQ (canon d.Neg (val d.Digits) d.Scale.toNat)=d:=by
 obtain⟨_,_,_,h4,_,h6⟩:=h;unfold nrm at h6;have e:(-d.Scale).toNat=0:=by omega
 rw[e,Nat.pow_zero,Nat.mul_one]at h6;split at h6
 ·cases h6
 ·exact congrArg Prod.fst h6
theorem VD.of{neg:Bool}{v s:Nat}(h1:(canon neg v s).2.1.length≤62)(h2:(canon neg v s).2.2≤62):VD (yQ (canon neg v s)):=by
 refine⟨zzf _ _ _,zq8 _ _ _,h1,?_,?_,?_⟩
 ·show(0:Int)≤((canon neg v s).2.2:Int);omega
 ·show((canon neg v s).2.2:Int)≤62;omega
 ·unfold nrm;have e1:(-(yQ (canon neg v s)).Scale).toNat=0:=by show(-((canon neg v s).2.2:Int)).toNat=0;omega
  have e2:(yQ (canon neg v s)).Scale.toNat=(canon neg v s).2.2:=by show(((canon neg v s).2.2:Nat):Int).toNat=_;omega
  have e3:canon (yQ (canon neg v s)).Neg (val (yQ (canon neg v s)).Digits) (canon neg v s).2.2=canon neg v s:=zoK neg v s;rw[e1,e2,Nat.pow_zero,Nat.mul_one,e3,if_neg (by omega)]
theorem zda{neg:Bool}{l:List UInt8}{s:Int}(h1:(canon neg (val l*10^(-s).toNat) s.toNat).2.1.length≤62)(h2:(canon neg (val l*10^(-s).toNat) s.toNat).2.2≤62):
  nrm neg l s=(yQ (canon neg (val l*10^(-s).toNat) s.toNat),0):=by
 unfold nrm;rw[if_neg (by omega)]
theorem yN{neg:Bool}{v s n:Nat}(hn:1≤n)(h:v<10^n):(canon neg v s).2.1.length≤n:=by
 unfold canon;split
 ·simpa using hn
 ·dsimp only;refine zot ?_;have:=(qf s v).1;have hp:=pow_pos (s-(zR s v).2);have hle:(zR s v).1≤v:=by rw[this];exact Nat.le_trans (Nat.le_of_eq (Nat.mul_one _).symm) (by rw[←this];exact Nat.le_trans (Nat.mul_le_mul_left _ hp) (Nat.le_of_eq this.symm))
  omega
end Go.Proofs.C06
end
section
set_option maxRecDepth 100000
namespace Go.Proofs.C06
open Go Go.RowKit Go.Vc Go.Am Go.Dg
theorem zCX{v len k:Nat}(h:v<10^len):v%10^(min len k)=v%10^k:=by
 rcases Nat.le_total k len with hk|hk
 ·rw[Nat.min_eq_right hk]
 ·rw[Nat.min_eq_left hk,Nat.mod_eq_of_lt h,Nat.mod_eq_of_lt (Nat.lt_of_lt_of_le h (Nat.pow_le_pow_right (by decide) hk))]
theorem zi3(l:List UInt8){m:Nat}(h:m≤l.length):jz l ((l.length:Int)-(m:Int))=l.take (l.length-m):=by unfold jz;congr 1;omega
theorem QE(l:List UInt8){m:Nat}(h:m≤l.length):zM l ((l.length:Int)-(m:Int))=l.drop (l.length-m):=by unfold zM;congr 1;omega
theorem zq2{N:Nat}(hN:3000<N){d b:Decimal}(hd:VD d){m:Nat}(hm:m≤d.Digits.length):
  zcy N (m:Int) d b=some ((nrm d.Neg (d.Digits.take (d.Digits.length-m)++List.replicate m 48) d.Scale).1,decide (val d.Digits%10^m=0),(nrm d.Neg (d.Digits.take (d.Digits.length-m)++List.replicate m 48) d.Scale).2):=by
 obtain⟨h1,h2,h3,h4,h5,_⟩:=hd;unfold zcy;have hin1:zw ((d.Digits.length:Int)-(m:Int)) (d.Digits.length:Int) d.Digits.length=true:=by unfold zw;simp<;>omega
 have hin2:zw 0 ((d.Digits.length:Int)-(m:Int)) d.Digits.length=true:=by unfold zw;simp<;>omega
 obtain⟨t,e1,e2⟩:=zrx (s:=d.Digits.drop (d.Digits.length-m)) (by rw[List.length_drop];omega) (h2.drop _);rw[zu (by omega) (by omega),za,hin1,za,za,hin2,za,JT (by omega),zc,zi3 _ hm,QE _ hm,
  zO (by rw[List.length_take,List.length_replicate];omega),za,
  Zo hN _ (Digs.append.2 ⟨h2.take _,Digs.zeros _⟩) (by rw[List.length_append,List.length_take,List.length_replicate];omega) (by omega) (by omega),zc,e1,zc]
 have e3:(t=[])↔val d.Digits%10^m=0:=by rw[e2,(jm h2 hm).2]
 rw[decide_eq_decide.2 e3]
theorem zgf{N:Nat}(hN:3000<N){d:Decimal}(hd:VD d){s:Int}(hs: -1000≤s)(hs2:s≤1000):
  ∃x e,zem N d s=some (x,decide (val d.Digits%10^(d.Scale-s).toNat=0),e)∧
   (d.Scale≤s→x=d∧e=0)∧(s<d.Scale→∃m,m=min d.Digits.length (d.Scale-s).toNat∧(x,e)=nrm d.Neg (d.Digits.take (d.Digits.length-m)++List.replicate m 48) d.Scale):=by
 have hd':=hd;obtain⟨h1,h2,h3,h4,h5,_⟩:=hd';unfold zem;rw[Js hN (by omega),if_pos hd,zc,zp,if_pos rfl,zb];by_cases h:d.Scale≤s
 ·rw[if_pos h];refine⟨d,0,?_,fun _=>⟨rfl,rfl⟩,fun h'=>by omega⟩;have e:(d.Scale-s).toNat=0:=by omega
  rw[e,Nat.pow_zero,Nat.mod_one,decide_eq_true rfl]
 ·rw[if_neg h,zb,if_pos (by omega),zu (by omega) (by omega),za];have em:zlO (d.Digits.length:Int) (d.Scale-s)=((min d.Digits.length (d.Scale-s).toNat:Nat):Int):=by unfold zlO;split<;>omega
  rw[em,zq2 hN hd (by omega),zCX (jw h2)];exact⟨_,_,rfl,fun h'=>absurd h' h,fun _=>⟨_,rfl,rfl⟩⟩
def quo(v S:Nat)(s:Int):Nat:=v*10^(s-(S:Int)).toNat/10^((S:Int)-s).toNat
def exact(v S:Nat)(s:Int):Prop:=v%10^((S:Int)-s).toNat=0
instance(v S:Nat)(s:Int):Decidable (exact v S s):=by unfold exact;infer_instance
theorem zaS{N:Nat}{n:Nat}{s:List UInt8}(hn:n≤1000)(hs:s.length≤1000):Qb N (n:Int) s=some (List.replicate (n-s.length) 48++s,true):=by
 unfold Qb;have e:jP ((n:Int)-(s.length:Int)) 0=((n-s.length:Nat):Int):=by unfold jP;split<;>omega
 rw[zu (by omega) (by omega),za,e,JT (by omega),zc,zO (by rw[List.length_replicate];omega),za]
theorem Vz{N:Nat}(hN:3000<N){d:Decimal}(hd:VD d){n:Nat}{s:Int}(hn:n≤1000)(hs: -62≤s)(hs2:s≤62):
  (exact (val d.Digits) d.Scale.toNat s→∃t,places N d (n:Int) s=some (t,true)∧Digs t∧val t=quo (val d.Digits) d.Scale.toNat s∧n≤t.length∧t.length≤2000)∧
  (¬exact (val d.Digits) d.Scale.toNat s→places N d (n:Int) s=some ([],false)):=by
 obtain⟨x,e,hc,_⟩:=zgf hN hd (s:=s) (by omega) (by omega);obtain⟨h1,h2,h3,h4,h5,_⟩:=hd;have hS:((d.Scale.toNat:Nat):Int)=d.Scale:=by omega
 have hex:(val d.Digits%10^(d.Scale-s).toNat=0)↔exact (val d.Digits) d.Scale.toNat s:=by unfold exact;rw[hS]
 unfold places;rw[hc,zc,zp];constructor
 ·intro he;rw[if_pos (hex.2 he),zu (by omega) (by omega),za,zb];by_cases h:0≤s-d.Scale
  ·obtain⟨k,hk⟩:∃k:Nat,s-d.Scale=k:=⟨(s-d.Scale).toNat,by omega⟩
   have e1:(d.Scale-s).toNat=0:=by omega
   refine⟨List.replicate (n-(d.Digits++List.replicate k 48).length) 48++(d.Digits++List.replicate k 48),?_,?_,?_,?_,?_⟩
   ·rw[if_pos h,hk,JT (by omega),zc,zO (by rw[List.length_replicate];omega),za,zaS hn (by rw[List.length_append,List.length_replicate];omega)]
   ·exact Digs.append.2 ⟨Digs.zeros _,Digs.append.2 ⟨h2,Digs.zeros _⟩⟩
   ·rw[qX,jG];unfold quo;rw[hS,hk,e1,Int.toNat_natCast,Nat.pow_zero,Nat.div_one]
   ·simp only[List.length_append,List.length_replicate];omega
   ·simp only[List.length_append,List.length_replicate];omega
  ·obtain⟨k,hk⟩:∃k:Nat,d.Scale-s=k:=⟨(d.Scale-s).toNat,by omega⟩
   have em:jP ((d.Digits.length:Int)+(s-d.Scale)) 0=((d.Digits.length-k:Nat):Int):=by unfold jP;split<;>omega
   have et:jz d.Digits ((d.Digits.length-k:Nat):Int)=d.Digits.take (d.Digits.length-k):=rfl;have hin:zw 0 ((d.Digits.length-k:Nat):Int) d.Digits.length=true:=by unfold zw;simp<;>omega
   have e1:(s-d.Scale).toNat=0:=by omega
   refine⟨List.replicate (n-(d.Digits.take (d.Digits.length-k)).length) 48++d.Digits.take (d.Digits.length-k),?_,?_,?_,?_,?_⟩
   ·rw[if_neg h,zu (by omega) (by omega),za,em,hin,za,et,zaS hn (by rw[List.length_take];omega)]
   ·exact Digs.append.2 ⟨Digs.zeros _,h2.take _⟩
   ·rw[qX];unfold quo;rw[hS,e1,hk,Int.toNat_natCast,Nat.pow_zero,Nat.mul_one];rcases Nat.le_total k d.Digits.length with hkl|hkl
    ·exact (jm h2 hkl).1
    ·have:d.Digits.length-k=0:=by omega
     rw[this,List.take_zero,zay,Nat.div_eq_of_lt (Nat.lt_of_lt_of_le (jw h2) (Nat.pow_le_pow_right (by decide) hkl))]
   ·simp only[List.length_append,List.length_replicate,List.length_take];omega
   ·simp only[List.length_append,List.length_replicate,List.length_take];omega
 ·intro he;rw[if_neg (fun h=>he (hex.1 h))]
theorem Vr{N:Nat}(hN:3000<N){d:Decimal}(hl:d.Digits.length≤1000){n:Nat}{s:Int}(hn0:1≤n)(hn:n≤62)(hs: -62≤s)(hs2:s≤62):WP N d (n:Int) s=some (if VD d then 0 else 1):=by
 unfold WP;rw[Js hN hl,zc,zp];by_cases h:VD d
 ·rw[if_pos h,if_pos rfl,zb,if_neg (by omega),zb,if_neg (by omega),zb,if_neg (by omega),zb,if_neg (by omega)]
 ·rw[if_neg h,if_neg (by decide)]
def Yy(d:Decimal)(n:Nat)(s:Int):Prop:=exact (val d.Digits) d.Scale.toNat s∧quo (val d.Digits) d.Scale.toNat s<10^n
instance(d:Decimal)(n:Nat)(s:Int):Decidable (Yy d n s):=by unfold Yy;infer_instance
theorem zgQ{N:Nat}(hN:3000<N){d:Decimal}(hd:VD d){n:Nat}{s:Int}(hn0:1≤n)(hn:n≤62)(hs: -62≤s)(hs2:s≤62):zdJ N d (n:Int) s=some (decide (Yy d n s),0):=by
 have hlen:d.Digits.length≤1000:=by have:=hd.2.2.1;omega
 obtain⟨p1,p2⟩:=Vz hN hd (n:=n) (s:=s) (by omega) hs hs2;unfold zdJ;rw[Vr hN hlen hn0 hn hs hs2,if_pos hd,zc,zp,if_pos rfl];by_cases he:exact (val d.Digits) d.Scale.toNat s
 ·obtain⟨t,e1,e2,e3,e4,e5⟩:=p1 he;have hin:zw 0 ((t.length:Int)-(n:Int)) t.length=true:=by unfold zw;simp<;>omega
  obtain⟨q,g1,g2⟩:=zrx (s:=t.take (t.length-n)) (by rw[List.length_take];omega) (e2.take _);rw[e1,zc];dsimp only;rw[cond_true,zu (by omega) (by omega),za,hin,za,zi3 _ e4,g1,zc];congr 2;rw[decide_eq_decide,g2,(jm e2 e4).1,e3];unfold Yy;have hp:=pow_pos n;constructor
  ·intro h;exact⟨he,by rcases Nat.div_eq_zero_iff.1 h with h|h;omega;exact h⟩
  ·intro h;exact Nat.div_eq_of_lt h.2
 ·rw[p2 he,zc];dsimp only;rw[cond_false,decide_eq_false (fun h=>he h.1)]
theorem zgR{N:Nat}(hN:3000<N){d:Decimal}(hd:VD d){n:Nat}{s:Int}(hn0:1≤n)(hn:n≤62)(hs: -62≤s)(hs2:s≤62):
  Vq N d (n:Int) s=some (if Yy d n s then(fmt n (quo (val d.Digits) d.Scale.toNat s),0)else([],14)):=by
 obtain⟨p1,_⟩:=Vz hN hd (n:=n) (s:=s) (by omega) hs hs2;unfold Vq;rw[zgQ hN hd hn0 hn hs hs2,zc,zp,if_pos rfl,zp];by_cases h:Yy d n s
 ·obtain⟨t,e1,e2,e3,e4,e5⟩:=p1 h.1;have hin:zw ((t.length:Int)-(n:Int)) (t.length:Int) t.length=true:=by unfold zw;simp<;>omega
  rw[if_pos h,if_pos h,e1,zc];dsimp only;rw[zu (by omega) (by omega),za,hin,za,QE _ e4];congr 2;refine zyz (e2.drop _) (by rw[List.length_drop];omega) ?_;rw[(jm e2 e4).2,e3,Nat.mod_eq_of_lt h.2]
 ·rw[if_neg h,if_neg h]
theorem ZO{v S n:Nat}{s:Int}(hS:S≤62)(hs: -62≤s)(hs2:s≤62):(exact v S s∧quo v S s<10^n)↔∃q,q<10^n∧v*10^(62+s).toNat=q*10^(62+S):=by
 unfold exact quo;have hp:0<10^((S:Int)-s).toNat:=pow_pos _;have key:∀q,(v*10^(s-(S:Int)).toNat=q*10^((S:Int)-s).toNat)↔v*10^(62+s).toNat=q*10^(62+S):=by
  intro q;rcases Int.le_total s S with h|h
  ·have e1:(s-(S:Int)).toNat=0:=by omega
   have e2:62+S=((S:Int)-s).toNat+(62+s).toNat:=by omega
   rw[e1,e2,Nat.pow_zero,Nat.mul_one,Nat.pow_add,←Nat.mul_assoc];constructor
   ·intro h;rw[h]
   ·intro h;exact Nat.eq_of_mul_eq_mul_right (pow_pos _) h
  ·have e1:((S:Int)-s).toNat=0:=by omega
   have e2:(62+s).toNat=(s-(S:Int)).toNat+(62+S):=by omega
   rw[e1,e2,Nat.pow_zero,Nat.mul_one,Nat.pow_add,←Nat.mul_assoc];constructor
   ·intro h;rw[h]
   ·intro h;exact Nat.eq_of_mul_eq_mul_right (pow_pos _) h
 constructor
 ·rintro⟨h1,h2⟩;refine⟨_,h2,(key _).1 ?_⟩;rw[Nat.div_mul_cancel];exact Nat.dvd_trans (Nat.dvd_of_mod_eq_zero h1) (Nat.dvd_mul_right _ _)
 ·rintro⟨q,h1,h2⟩;have h3:=(key q).2 h2;refine⟨?_,by rw[h3,Nat.mul_div_cancel _ hp];exact h1⟩;rcases Int.le_total s S with h|h
  ·have e1:(s-(S:Int)).toNat=0:=by omega
   rw[e1,Nat.pow_zero,Nat.mul_one]at h3;rw[h3];exact Nat.mul_mod_left _ _
  ·have e1:((S:Int)-s).toNat=0:=by omega
   rw[e1,Nat.pow_zero,Nat.mod_one]
theorem zkv{v S q:Nat}{s:Int}(hS:S≤62)(hs: -62≤s)(hs2:s≤62)(h:v*10^(62+s).toNat=q*10^(62+S)):quo v S s=q:=by
 obtain⟨h1,h2⟩:=(ZO (v:=v) (n:=q+1) hS hs hs2).2 ⟨q,Nat.lt_of_lt_of_le (JQ q) (Nat.pow_le_pow_right (by decide) (by omega)),h⟩;obtain⟨q',h3,h4⟩:=(ZO (v:=v) (n:=q+1) hS hs hs2).1 ⟨h1,h2⟩;have hq:q'=q:=Nat.eq_of_mul_eq_mul_right (pow_pos _) (h4.symm.trans h);unfold quo;rcases Int.le_total s S with h'|h'
 ·have e1:(s-(S:Int)).toNat=0:=by omega
  have e2:62+S=((S:Int)-s).toNat+(62+s).toNat:=by omega
  rw[e2,Nat.pow_add,←Nat.mul_assoc]at h;have:=Nat.eq_of_mul_eq_mul_right (pow_pos _) h;rw[e1,Nat.pow_zero,Nat.mul_one,this,Nat.mul_div_cancel _ (pow_pos _)]
 ·have e1:((S:Int)-s).toNat=0:=by omega
  have e2:(62+s).toNat=(s-(S:Int)).toNat+(62+S):=by omega
  rw[e2,Nat.pow_add,←Nat.mul_assoc]at h;have:=Nat.eq_of_mul_eq_mul_right (pow_pos _) h;rw[e1,Nat.pow_zero,Nat.div_one,this]
end Go.Proofs.C06
end
section
namespace Go.Dg
open Go
theorem zmN(k:IntKind)(n:Int):k.wrap n=k.wrap (n% (2^k.bits:Int)):=by unfold IntKind.wrap;simp only[Int.emod_emod_of_dvd _ (Int.dvd_refl _)]
theorem zo6{k:IntKind}{m n:Int}(h:m% (2^k.bits:Int)=n% (2^k.bits:Int)):k.wrap m=k.wrap n:=by rw[zmN,h,←zmN]
theorem zrq{n:Int}(h0:0≤n)(h1:n<256):IntKind.wrap .u8 n=n:=by have e:(2^IntKind.bits .u8:Int)=256:=rfl;unfold IntKind.wrap;rw[e];simp only[show IntKind.signed .u8=false from rfl,Bool.false_and,Bool.false_eq_true,if_false];omega
theorem wrap_u64(n:Int):IntKind.wrap .u64 n=n%18446744073709551616:=by have e:(2^IntKind.bits .u64:Int)=18446744073709551616:=rfl;unfold IntKind.wrap;rw[e];simp only[show IntKind.signed .u64=false from rfl,Bool.false_and,Bool.false_eq_true,if_false]
theorem zmM(n:Int):IntKind.wrap .u8 n=n%256:=by have e:(2^IntKind.bits .u8:Int)=256:=rfl;unfold IntKind.wrap;rw[e];simp only[show IntKind.signed .u8=false from rfl,Bool.false_and,Bool.false_eq_true,if_false]
theorem wrap_i64(n:Int):IntKind.wrap .i64 n=if 9223372036854775808≤n%18446744073709551616 then n%18446744073709551616-18446744073709551616 else n%18446744073709551616:=by have e:(2^IntKind.bits .i64:Int)=18446744073709551616:=rfl;have e2:(2^(IntKind.bits .i64-1):Int)=9223372036854775808:=rfl;unfold IntKind.wrap;rw[e,e2];simp only[show IntKind.signed .i64=true from rfl,Bool.true_and,decide_eq_true_eq,ge_iff_le]
theorem ZJ(w:Nat)(x:Int):((BitVec.ofInt w x).toNat:Int)=x% (2^w:Int):=by
 rw[BitVec.toNat_ofInt,Int.toNat_of_nonneg]
 ·norm_cast
 ·exact Int.emod_nonneg _ (by have:=Nat.two_pow_pos w;omega)
theorem XD{k:IntKind}{x:Int}{m:Nat}(hm:m≤k.bits):bits .and k x ((2^m-1:Nat):Int)=k.wrap (x% ((2^m:Nat):Int)):=by
 have h2:(BitVec.ofInt k.bits ((2^m-1:Nat):Int)).toNat=2^m-1:=by
  have h:=ZJ k.bits ((2^m-1:Nat):Int);have hle:(2:Nat)^m≤2^k.bits:=Nat.pow_le_pow_right (by decide) hm;have hp:=Nat.two_pow_pos m;have hc:(2^k.bits:Int)=((2^k.bits:Nat):Int):=by norm_cast
  rw[hc,Int.emod_eq_of_lt (by omega) (by omega)]at h;omega
 unfold bits;simp only[BitVec.toNat_and,h2,Nat.and_two_pow_sub_one_eq_mod];congr 1;rw[Int.natCast_emod,ZJ];refine Int.emod_emod_of_dvd _ ?_;have:=Nat.pow_dvd_pow 2 hm;have hc:(2^k.bits:Int)=((2^k.bits:Nat):Int):=by norm_cast
 rw[hc];exact Int.natCast_dvd_natCast.2 this
theorem zd1{k:IntKind}{a x:Int}{m:Nat}(hm:m≤k.bits)(ha:a% ((2^m:Nat):Int)=0)(h0:0≤x)(hx:x<((2^m:Nat):Int)):bits .or k a x=k.wrap (a+x):=by
 have hc:(2^k.bits:Int)=((2^k.bits:Nat):Int):=by norm_cast
 have hle:(2:Nat)^m≤2^k.bits:=Nat.pow_le_pow_right (by decide) hm;obtain⟨A,hA⟩:∃A:Nat,(BitVec.ofInt k.bits a).toNat=A*2^m:=by
  have h:=ZJ k.bits a;have hd:((2^m:Nat):Int)∣((BitVec.ofInt k.bits a).toNat:Int):=by apply Int.dvd_of_emod_eq_zero;rw[h,hc,Int.emod_emod_of_dvd _ (Int.natCast_dvd_natCast.2 (Nat.pow_dvd_pow 2 hm))];exact ha
  obtain⟨q,hq⟩:=Int.natCast_dvd_natCast.1 hd;exact⟨q,by rw[hq,Nat.mul_comm]⟩
 obtain⟨y,rfl⟩:∃y:Nat,x=y:=⟨x.toNat,by omega⟩
 have hy:y<2^m:=by omega
 have hX:(BitVec.ofInt k.bits (y:Int)).toNat=y:=by have h:=ZJ k.bits (y:Int);rw[hc,Int.emod_eq_of_lt (by omega) (by omega)]at h;omega
 unfold bits;simp only[BitVec.toNat_or,hX];have hor:(BitVec.ofInt k.bits a).toNat|||y=(BitVec.ofInt k.bits a).toNat+y:=by rw[hA,←Nat.shiftLeft_eq,Nat.shiftLeft_add_eq_or_of_lt hy]
 rw[hor];apply zo6;rw[Int.natCast_add,ZJ,Int.emod_add_emod]
theorem zDS{x:Int}:bits .and .u8 x 15=x%16:=by have:=XD (k:=.u8) (x:=x) (m:=4) (by decide);rw[show((2^4-1:Nat):Int)=15 from rfl,show((2^4:Nat):Int)=16 from rfl,zrq (by omega) (by omega)]at this;exact this
theorem zFA{a x:Int}(ha:a%16=0)(h0:0≤x)(hx:x<16):bits .or .u8 a x=(a+x)%256:=by have:=zd1 (k:=.u8) (a:=a) (x:=x) (m:=4) (by decide) (by simpa using ha) h0 (by simpa using hx);rw[this,zmM]
theorem zEE{a x:Int}(ha:a%256=0)(h0:0≤x)(hx:x<256):bits .or .u64 a x=(a+x)%18446744073709551616:=by have:=zd1 (k:=.u64) (a:=a) (x:=x) (m:=8) (by decide) (by simpa using ha) h0 (by simpa using hx);rw[this,wrap_u64]
end Go.Dg
end
section
set_option maxRecDepth 100000
namespace Go.Proofs.C06
open Go Go.RowKit Go.Vc Go.Am Go.Dg
theorem zZ{i n:Nat}(h:i<n):zA (i:Int) n=true:=zH.2 ⟨by omega,by omega⟩
theorem jb(s:List UInt8)(i:Nat):byteAt s (i:Int)=((s.getD i 0).toNat:Int):=rfl
theorem Ql{n:Int}(h0:0≤n)(h:n≤255):zd .u8 n=true:=yA.2 ⟨h0,h⟩
theorem zdG(c:UInt8):c.toNat<256:=UInt8.toNat_lt c
theorem zuQ(c:UInt8):((c.toNat:Int).toNat.toUInt8)=c:=by simp
theorem Y5{c:Nat}:toByte (c:Int)=UInt8.ofNat c:=rfl
theorem zkd(c:UInt8):toByte ((c.toNat:Nat):Int)=c:=by unfold toByte;rw[Int.toNat_natCast];exact UInt8.ofNat_toNat
theorem zob{l:List UInt8}{i:Nat}(h:i<l.length):l.getD i 0∈l:=by rw[List.getD_eq_getElem?_getD,List.getElem?_eq_getElem h];exact List.getElem_mem h
theorem yh{l:List UInt8}(hd:Digs l){i:Nat}(h:i<l.length):48≤(l.getD i 0).toNat∧(l.getD i 0).toNat≤57:=hd _ (zob h)
theorem ztq{l:List UInt8}{i:Nat}(h:i<l.length)(x:UInt8):l.take i++[x]++l.drop (i+1)=l.set i x:=by rw[List.set_eq_take_append_cons_drop,if_pos h,List.append_assoc];rfl
def zny:List UInt8:=[123,65,66,67,68,69,70,71,72,73]
def zdd:List UInt8:=[125,74,75,76,77,78,79,80,81,82]
def zp1:List UInt8:=[48,49,50,51,52,53,54,55,56,57]
def ixC(c:UInt8):Int:=jP (Lib.indexByte zny c) (Lib.indexByte zdd c)
def zyT(c:UInt8):Option (Bool×UInt8):=if 0≤ixC c then some (decide (0≤Lib.indexByte zdd c),zp1.getD (ixC c).toNat 0)else none
def letC(ng:Bool)(c:UInt8):UInt8:=(if ng then zdd else zny).getD (c.toNat-48) 0
theorem zEN(c:UInt8):ixC c<10:=by
 have:∀m:Fin 256,ixC (UInt8.ofNat m.val)<10:=by decide
 have h:=this ⟨c.toNat,zdG c⟩;simpa using h
theorem zum(ng:Bool){c:UInt8}(h:48≤c.toNat∧c.toNat≤57):zyT (letC ng c)=some (ng,c):=by
 have:∀m:Fin 256,48≤m.val→m.val≤57→zyT (letC true (UInt8.ofNat m.val))=some (true,UInt8.ofNat m.val)∧zyT (letC false (UInt8.ofNat m.val))=some (false,UInt8.ofNat m.val):=by decide
 have h2:=this ⟨c.toNat,zdG c⟩ h.1 h.2;simp only[UInt8.ofNat_toNat]at h2;cases ng
 ·exact h2.2
 ·exact h2.1
def sgnAt(ld:Bool)(n:Nat):Nat:=if ld then 0 else n-1
theorem zog{N:Nat}{f:form}{n:Nat}(hn:f.Digits=(n:Int))(h1:1≤n)(h2:n≤100):zoh N f=some ((sgnAt f.Leading n:Nat):Int):=by
 unfold zoh sgnAt;cases f.Leading with
 |true=>rfl
 |false=>rw[cond_false,hn,zu (by omega) (by omega),za,if_neg (by simp)];congr 1;omega
theorem zgI{ld:Bool}{n:Nat}(h:1≤n):sgnAt ld n<n:=by unfold sgnAt;split<;>omega
def rZ(sg ld:Bool)(n:Nat)(b:List UInt8):digits×Bool:=
 if sg then match zyT (b.getD (sgnAt ld n) 0)with
  |some (ng,x)=>(digits.mk ng (b.set (sgnAt ld n) x),decide (Digs (b.set (sgnAt ld n) x)))
  |none=>(digits.mk false b,decide (Digs b))
 else(digits.mk false b,decide (Digs b))
theorem zDI{s:List UInt8}(hs:s.length≤1000000):∃t,Z4 s [48,49,50,51,52,53,54,55,56,57]=some t∧(t=[]↔Digs s):=by refine⟨_,zhq hs (by decide) (by decide),?_⟩;rw[zcS];exact⟨fun h c hc=>(Wb c).1 (h c hc),fun h c hc=>(Wb c).2 (h c hc)⟩
theorem QS{N:Nat}(b0 b1:digits)(h:b1.s.length≤1000):Ji N b0 b1=some (b1,decide (Digs b1.s)):=by unfold Ji;obtain⟨t,h1,h2⟩:=zDI (s:=b1.s) (by omega);rw[h1,zc,decide_eq_decide.2 h2]
theorem ztc{N:Nat}{f:form}{b:List UInt8}{n:Nat}(hn:f.Digits=(n:Int))(h1:1≤n)(h2:n≤100)(hb:b.length=n):zgB N f b=some (rZ f.Signed f.Leading n b):=by
 unfold zgB rZ;rw[zog hn h1 h2,zc];have hlt:=zgI (ld:=f.Leading) h1;generalize sgnAt f.Leading n=i at hlt;cases f.Signed with
 |false=>rw[cond_false,QS _ _ (by show b.length≤1000;omega),if_neg (by simp)]
 |true=>
  rw[cond_true,if_pos rfl,zZ (by omega),za,jb];unfold yc;rw[zuQ,zc,zc];have e:jP (Lib.indexByte [123,65,66,67,68,69,70,71,72,73] (b.getD i 0)) (Lib.indexByte [125,74,75,76,77,78,79,80,81,82] (b.getD i 0))=ixC (b.getD i 0):=rfl;rw[e,zb];have hk:=zEN (b.getD i 0);unfold zyT;by_cases h0:0≤ixC (b.getD i 0)
  ·obtain⟨k,hk0⟩:∃k:Nat,ixC (b.getD i 0)=k:=⟨(ixC (b.getD i 0)).toNat,by omega⟩
   have hsub:Vc.sub ([48,49,50,51,52,53,54,55,56,57]:List UInt8) (k:Int) ((k:Int)+1)=[zp1.getD k 0]:=by
    have:∀m:Fin 10,Vc.sub ([48,49,50,51,52,53,54,55,56,57]:List UInt8) ((m.val:Nat):Int) (((m.val:Nat):Int)+1)=[zp1.getD m.val 0]:=by decide
    exact this ⟨k,by omega⟩
   have hin1:zw 0 (i:Int) b.length=true:=by unfold zw;simp<;>omega
   have hin2:zw (k:Int) ((k:Int)+1) ([48,49,50,51,52,53,54,55,56,57]:List UInt8).length=true:=by unfold zw;simp<;>omega
   have hin3:zw ((i:Int)+1) (b.length:Int) b.length=true:=by unfold zw;simp<;>omega
   have ht:jz b (i:Int)=b.take i:=rfl;have hd:zM b ((i:Int)+1)=b.drop (i+1):=by unfold zM;congr 1
   rw[if_pos h0,if_pos h0,hk0,hsub,hin1,za,zu (by omega) (by omega),za,hin2,za,ht,zO (by simp[List.length_take];omega),za,zu (by omega) (by omega),za,hin3,za,hd,
    zO (by simp[List.length_take];omega),za,ztq (by omega),QS _ _ (by show(b.set i _).length≤1000;rw[List.length_set];omega),Int.toNat_natCast]
   rfl
  ·rw[if_neg h0,if_neg h0,QS _ _ (by show b.length≤1000;omega)]
def wZ(sg ld ng:Bool)(n:Nat)(s:List UInt8):List UInt8:=if sg then s.set (sgnAt ld n) (letC ng (s.getD (sgnAt ld n) 0))else s
theorem jv{n:Int}(h0:0≤n)(h1:n<256):IntKind.wrap .u8 n=n:=zrq h0 h1
theorem Ka{N:Nat}{i:Nat}{ng:Bool}{s:List UInt8}(hi:i<s.length)(hd:Digs s):ZF N (i:Int) (if ng then zdd else zny) s=some (s.set i (letC ng (s.getD i 0))):=by
 have h:=yh hd hi;have hl:(if ng then zdd else zny).length=10:=by cases ng<;>rfl
 unfold ZF;have e:((s.getD i 0).toNat:Int)-48=(((s.getD i 0).toNat-48:Nat):Int):=by omega
 rw[zZ hi,za,za,jb,e,jv (by omega) (by omega),zZ (by omega),za,za,jb,Ql (by omega) (by have:=zdG ((if ng then zdd else zny).getD ((s.getD i 0).toNat-48) 0);omega),
  zkd,Int.toNat_natCast]
 rfl
theorem zm0{N:Nat}{f:form}{d:digits}{n:Nat}(hn:f.Digits=(n:Int))(h1:1≤n)(h2:n≤100)(hs:d.s.length=n)(hd:Digs d.s):Y3 N f d=some (wZ f.Signed f.Leading d.neg n d.s):=by
 unfold Y3 wZ;rw[zog hn h1 h2,zc];have hlt:=zgI (ld:=f.Leading) h1;cases f.Signed with
 |false=>rw[cond_false,if_neg (by simp)]
 |true=>
  rw[cond_true,if_pos rfl];have h3:=Ka (N:=N) (ng:=true) (i:=sgnAt f.Leading n) (s:=d.s) (by omega) hd;have h4:=Ka (N:=N) (ng:=false) (i:=sgnAt f.Leading n) (s:=d.s) (by omega) hd;cases d.neg with
  |true=>exact h3
  |false=>exact h4
theorem zD1{sg ld ng:Bool}{n:Nat}{s:List UInt8}:(wZ sg ld ng n s).length=s.length:=by unfold wZ;split<;>simp
theorem zFt{sg ld ng:Bool}{n:Nat}{s:List UInt8}(h1:1≤n)(hs:s.length=n)(hd:Digs s):rZ sg ld n (wZ sg ld ng n s)=(digits.mk (sg&&ng) s,true):=by
 have hlt:=zgI (ld:=ld) h1;unfold rZ wZ;cases sg with
 |false=>simp[hd]
 |true=>
  simp only[if_true,Bool.true_and];have e:(s.set (sgnAt ld n) (letC ng (s.getD (sgnAt ld n) 0))).getD (sgnAt ld n) 0=letC ng (s.getD (sgnAt ld n) 0):=by rw[List.getD_eq_getElem?_getD,List.getElem?_set_self (by omega)];rfl
  have e2:(s.set (sgnAt ld n) (letC ng (s.getD (sgnAt ld n) 0))).set (sgnAt ld n) (s.getD (sgnAt ld n) 0)=s:=by
   rw[List.set_set];apply List.ext_getElem?;intro j;rw[List.getElem?_set];split
   ·rename_i h;subst h;rw[if_pos (by omega),List.getD_eq_getElem?_getD,List.getElem?_eq_getElem (by omega)];rfl
   ·rfl
  rw[e,zum ng (yh hd (by omega))];dsimp only;rw[e2,decide_eq_true hd]
def rS(ld:Bool)(n:Nat)(b:List UInt8):digits×Bool:=(digits.mk (decide (b.getD (if ld then 0 else n) 0=45)) (if ld then b.drop 1 else b.take n),decide ((b.getD (if ld then 0 else n) 0=43∨b.getD (if ld then 0 else n) 0=45)∧Digs (if ld then b.drop 1 else b.take n)))
theorem zgh{c:UInt8}{k:Nat}(hk:k<256):((c.toNat:Int)=(k:Int))↔c=UInt8.ofNat k:=by
 constructor
 ·intro h;apply UInt8.toNat_inj.1;rw[UInt8.toNat_ofNat'];omega
 ·rintro rfl;rw[UInt8.toNat_ofNat'];omega
theorem XQ{N:Nat}{f:form}{b:List UInt8}{n at_ fr:Nat}(hn:f.Digits=(n:Int))(h2:n≤100)(hb:b.length=n+1)(ha:at_<b.length)(hf:fr+n≤b.length)(d:digits):
  qG N b (at_:Int) (fr:Int) f d=some (digits.mk (decide (b.getD at_ 0=45)) ((b.take (fr+n)).drop fr),decide ((b.getD at_ 0=43∨b.getD at_ 0=45)∧Digs ((b.take (fr+n)).drop fr))):=by
 unfold qG;have e1:(fr:Int)+f.Digits=((fr+n:Nat):Int):=by omega
 have hin:zw (fr:Int) ((fr+n:Nat):Int) b.length=true:=by unfold zw;simp<;>omega
 have es:Vc.sub b (fr:Int) ((fr+n:Nat):Int)=(b.take (fr+n)).drop fr:=rfl;have h43:(((b.getD at_ 0).toNat:Int)=43)↔b.getD at_ 0=43:=zgh (k:=43) (by decide);have h45:(((b.getD at_ 0).toNat:Int)=45)↔b.getD at_ 0=45:=zgh (k:=45) (by decide);obtain⟨t,t1,t2⟩:=zDI (s:=(b.take (fr+n)).drop fr) (by rw[List.length_drop,List.length_take];omega);rw[zZ ha,za,e1,zu (by omega) (by omega),za,hin,za,jb,es];simp only[t1,zc,za,decide_eq_decide.2 h43,decide_eq_decide.2 h45,decide_eq_decide.2 t2];clear h43 h45;generalize b.getD at_ 0=x;by_cases c1:x=43
 ·simp[c1]
 ·by_cases c2:x=45
  ·simp[c2]
  ·simp[c1,c2]
theorem zj9{N:Nat}{f:form}{b:List UInt8}{n:Nat}(hn:f.Digits=(n:Int))(h2:n≤100)(hb:b.length=n+1):Y4 N f b=some (rS f.Leading n b):=by
 unfold Y4 rS;cases f.Leading with
 |true=>rw[cond_true];have:=XQ (N:=N) hn h2 hb (at_:=0) (fr:=1) (by omega) (by omega) (digits.mk false []);rw[show(b.take (1+n)).drop 1=b.drop 1 by rw[List.take_of_length_le (by omega)]]at this;exact this
 |false=>rw[cond_false,hn];have:=XQ (N:=N) hn h2 hb (at_:=n) (fr:=0) (by omega) (by omega) (digits.mk false []);rw[Nat.zero_add,List.drop_zero]at this;exact this
def wS(ld ng:Bool)(s:List UInt8):List UInt8:=if ld then(if ng then 45 else 43)::s else s++[if ng then 45 else 43]
theorem zgD{N:Nat}{f:form}{d:digits}(hs:d.s.length≤1000):qp N f d=some (wS f.Leading d.neg d.s):=by
 unfold qp qA wS;cases d.neg<;>cases f.Leading<;>simp[zO (show([45]:List UInt8).length+d.s.length≤1000000 by simp;omega),zO (show([43]:List UInt8).length+d.s.length≤1000000 by simp;omega),
  zO (show d.s.length+([45]:List UInt8).length≤1000000 by simp;omega),zO (show d.s.length+([43]:List UInt8).length≤1000000 by simp;omega)]
theorem zD2{ld ng:Bool}{s:List UInt8}:(wS ld ng s).length=s.length+1:=by unfold wS;split<;>simp
theorem zFu{ld ng:Bool}{n:Nat}{s:List UInt8}(hs:s.length=n)(hd:Digs s):rS ld n (wS ld ng s)=(digits.mk ng s,true):=by
 unfold rS wS;cases ld with
 |true=>cases ng<;>simp[hd]
 |false=>
  have e:(s++[if ng then(45:UInt8)else 43]).getD n 0=if ng then 45 else 43:=by rw[List.getD_eq_getElem?_getD,List.getElem?_append_right (by omega)];simp[hs]
  have e2:(s++[if ng then(45:UInt8)else 43]).take n=s:=by rw[List.take_append_of_le_length (by omega),List.take_of_length_le (by omega)]
  simp only[Bool.false_eq_true,if_false,e,e2];cases ng<;>simp[hd]
end Go.Proofs.C06
end
section
set_option maxRecDepth 100000
namespace Go.Proofs.C06
open Go Go.RowKit Go.Vc Go.Am Go.Dg
def nib:List UInt8→List UInt8
 |[]=>[]
 |x::r=>UInt8.ofNat (x.toNat/16)::UInt8.ofNat (x.toNat%16)::nib r
theorem zeL:∀b,(nib b).length=2*b.length
 |[]=>rfl
 |x::r=>by rw[nib,List.length_cons,List.length_cons,zeL r,List.length_cons];omega
theorem zg9:∀a b,nib (a++b)=nib a++nib b
 |[],_=>rfl
 |x::a,b=>by rw[List.cons_append,nib,nib,zg9 a b];rfl
theorem zjm:∀b,∀c∈nib b,c.toNat<16
 |[],c,h=>by cases h
 |x::r,c,h=>by
  have hx:=zdG x;rw[nib]at h;rcases List.mem_cons.1 h with rfl|h
  ·rw[UInt8.toNat_ofNat'];omega
  ·rcases List.mem_cons.1 h with rfl|h
   ·rw[UInt8.toNat_ofNat'];omega
   ·exact zjm r c h
theorem zn6{n:Nat}(h:n≤1000000):jL 1 n=true:=by unfold jL;simp;omega
theorem znJ{b:List UInt8}{i:Nat}(h:i<b.length):nib (b.take (i+1))=nib (b.take i)++[UInt8.ofNat ((b.getD i 0).toNat/16),UInt8.ofNat ((b.getD i 0).toNat%16)]:=by
 have e:b.take (i+1)=b.take i++[b.getD i 0]:=by rw[List.take_add_one,List.getElem?_eq_getElem h,List.getD_eq_getElem?_getD,List.getElem?_eq_getElem h];rfl
 rw[e,zg9];rfl
theorem zsD(c:UInt8):([(((c.toNat:Nat):Int)/2^(Int.toNat 4)),(bits .and .u8 ((c.toNat:Nat):Int) 15)].map toByte)=[UInt8.ofNat (c.toNat/16),UInt8.ofNat (c.toNat%16)]:=by
 rw[zDS];have e1:(((c.toNat:Nat):Int)/2^(Int.toNat 4))=((c.toNat/16:Nat):Int):=by show(((c.toNat:Nat):Int)/16)=_;omega
 have e2:((c.toNat:Nat):Int)%16=((c.toNat%16:Nat):Int):=by omega
 rw[e1,e2];rfl
theorem zx6(c:UInt8):(zd .u8 (((c.toNat:Nat):Int)/2^(Int.toNat 4))&&(zd .u8 (bits .and .u8 ((c.toNat:Nat):Int) 15)&&true))=true:=by
 have hc:=zdG c;rw[zDS];have e1:(((c.toNat:Nat):Int)/2^(Int.toNat 4))=((c.toNat/16:Nat):Int):=by show(((c.toNat:Nat):Int)/16)=_;omega
 rw[e1,Ql (by omega) (by omega),Ql (by omega) (by omega)];rfl
def pdig(h:List UInt8):List UInt8:=h.map fun c=>UInt8.ofNat (c.toNat+48)
def zc8(sg:Bool)(l:UInt8):Prop:=if sg then l.toNat=12∨l.toNat=13 else l.toNat=15
instance(sg:Bool)(l:UInt8):Decidable (zc8 sg l):=by unfold zc8;infer_instance
def rP(sg:Bool)(D:Nat)(b:List UInt8):digits×Bool:=if∀c∈(nib b).take (2*b.length-1),c.toNat≤9 then(digits.mk (decide (((nib b).getD (2*b.length-1) 0).toNat=13)) ((pdig ((nib b).take (2*b.length-1))).drop (2*b.length-1-D)),decide (zc8 sg ((nib b).getD (2*b.length-1) 0)∧val ((pdig ((nib b).take (2*b.length-1))).take (2*b.length-1-D))=0))else(digits.mk false [],false)
theorem zji{h:List UInt8}(hh:∀c∈h,c.toNat≤9):Digs (pdig h):=by intro x hx;unfold pdig at hx;obtain⟨c,hc,rfl⟩:=List.mem_map.1 hx;have:=hh c hc;rw[UInt8.toNat_ofNat'];omega
def zcf(h:List UInt8)(t:Nat)(l:UInt8):List UInt8:=pdig (h.take t)++h.drop t++[l]
theorem zyp{h:List UInt8}{t:Nat}{l:UInt8}(ht:t≤h.length):(zcf h t l).length=h.length+1:=by unfold zcf pdig;simp[List.length_take,List.length_drop];omega
theorem zC7{h:List UInt8}{t:Nat}{l:UInt8}(ht:t<h.length):(zcf h t l).getD t 0=h.getD t 0:=by
 unfold zcf;have e:(pdig (h.take t)).length=t:=by unfold pdig;simp[List.length_take];omega
 rw[List.append_assoc,List.getD_eq_getElem?_getD,List.getElem?_append_right (by omega),e,Nat.sub_self,List.getElem?_append_left (by rw[List.length_drop];omega),List.getElem?_drop,Nat.add_zero,List.getD_eq_getElem?_getD]
theorem zyo{h:List UInt8}{t:Nat}{l:UInt8}(ht:t<h.length):(zcf h t l).set t (UInt8.ofNat ((h.getD t 0).toNat+48))=zcf h (t+1) l:=by
 have e:(pdig (h.take t)).length=t:=by unfold pdig;simp[List.length_take];omega
 have e1:h.drop t=h.getD t 0::h.drop (t+1):=by rw[List.drop_eq_getElem_cons ht,List.getD_eq_getElem?_getD,List.getElem?_eq_getElem ht];rfl
 have e2:h.take (t+1)=h.take t++[h.getD t 0]:=by rw[List.take_add_one,List.getElem?_eq_getElem ht,List.getD_eq_getElem?_getD,List.getElem?_eq_getElem ht];rfl
 have e3:pdig (h.take (t+1))=pdig (h.take t)++[UInt8.ofNat ((h.getD t 0).toNat+48)]:=by rw[e2];unfold pdig;rw[List.map_append];rfl
 unfold zcf;rw[e3,e1];have:pdig (h.take t)++h.getD t 0::h.drop (t+1)++[l]=pdig (h.take t)++(h.getD t 0::(h.drop (t+1)++[l])):=by simp
 rw[this,List.set_append_right _ _ (by omega),e,Nat.sub_self,List.set_cons_zero];simp
theorem ztZ{h:List UInt8}{l:UInt8}:zcf h h.length l=pdig h++[l]:=by unfold zcf;rw[List.take_length,List.drop_length,List.append_nil]
theorem ziv{N:Nat}{f:form}{D n:Nat}{h:List UInt8}{l:UInt8}(hD:f.Digits=(D:Int))(hn:h.length=n)(hDn:D≤n)(hn2:n≤1000)(hh:∀c∈h,c.toNat≤9)(last:Int)(ok:Bool)(b1:digits):
  qZ N 0 (n:Int) last ok f b1 (pdig h++[l])=some (digits.mk (decide (last=13)) ((pdig h).drop (n-D)),ok&&decide (val ((pdig h).take (n-D))=0)):=by
 have hp:(pdig h).length=n:=by unfold pdig;rw[List.length_map];exact hn
 unfold qZ;have e1:(n:Int)-f.Digits=((n-D:Nat):Int):=by omega
 have es1:Vc.sub (pdig h++[l]) (0+0) ((0+0)+(((n-D:Nat):Int)-0))=(pdig h).take (n-D):=by unfold Vc.sub;rw[show((0:Int)+0).toNat=0 from rfl,List.drop_zero,show((0:Int)+0+(((n-D:Nat):Int)-0)).toNat=n-D by omega,List.take_append_of_le_length (by omega)]
 have es2:Vc.sub (pdig h++[l]) (0+((n-D:Nat):Int)) ((0+((n-D:Nat):Int))+((n:Int)-((n-D:Nat):Int)))=(pdig h).drop (n-D):=by unfold Vc.sub;rw[show((0:Int)+((n-D:Nat):Int)).toNat=n-D by omega,show(0+((n-D:Nat):Int)+((n:Int)-((n-D:Nat):Int))).toNat=n by omega,List.take_append_of_le_length (by omega),List.take_of_length_le (by omega)]
 obtain⟨t,t1,t2⟩:=zrx (s:=(pdig h).take (n-D)) (by rw[List.length_take];omega) ((zji hh).take _);rw[e1,zu (by omega) (by omega),za,decide_eq_true (show(0:Int)≤((n-D:Nat):Int)by omega),decide_eq_true (show((n-D:Nat):Int)≤(n:Int)by omega),decide_eq_true (show(n:Int)≤(n:Int)by omega),es1,es2,t1,zc];cases ok<;>simp[t2]
theorem Wl{N:Nat}{f:form}{D n:Nat}{h:List UInt8}{l:UInt8}(hD:f.Digits=(D:Int))(hn:h.length=n)(hDn:D≤n)(hn2:n≤1000)(hs:∀c∈h,c.toNat<16)(b1:digits):∀(k t:Nat),t≤n→n-t<k→
  (∀c∈h.take t,c.toNat≤9)→
  JB N k 0 (n:Int) ((l.toNat:Nat):Int) (n:Int) (t:Int) f b1 (zcf h t l)=
   some (if∀c∈h,c.toNat≤9 then(digits.mk (decide (l.toNat=13)) ((pdig h).drop (n-D)),decide (zc8 f.Signed l∧val ((pdig h).take (n-D))=0))else(digits.mk false [],false))
 |0,t,_,hk,_=>by omega
 |k+1,t,ht,hk,hin=>by
  show QT N (JB N k) 0 (n:Int) ((l.toNat:Nat):Int) (n:Int) (t:Int) f b1 (zcf h t l)=_;unfold QT;rw[zb];by_cases h1:t<n
  ·have hlen:=zyp (h:=h) (t:=t) (l:=l) (by omega);have hv:=zC7 (h:=h) (t:=t) (l:=l) (by omega);have hm:h.getD t 0∈h:=zob (by omega);have hsm:=hs _ hm;rw[if_pos (by omega),decide_eq_true (show(0:Int)≤(t:Int)by omega),decide_eq_true (show(t:Int)<(n:Int)by omega),Bool.and_self,za,show(0:Int)+(t:Int)=(t:Int)by omega,zZ (by omega),za,jb,hv,zb];by_cases h2:9<(h.getD t 0).toNat
   ·rw[if_pos (by omega),if_neg (fun hall=>by have:=hall _ hm;omega)]
   ·have e:(((h.getD t 0).toNat:Nat):Int)+48=(((h.getD t 0).toNat+48:Nat):Int):=by omega
    have e2:h.take (t+1)=h.take t++[h.getD t 0]:=by rw[List.take_add_one,List.getElem?_eq_getElem (by omega),List.getD_eq_getElem?_getD,List.getElem?_eq_getElem (by omega)];rfl
    rw[if_neg (by omega),za,za,za,e,jv (by omega) (by omega),Ql (by omega) (by omega),Bool.and_self,za,zu (by omega) (by omega),za,Int.toNat_natCast,Y5,zyo (by omega),
     show(t:Int)+1=((t+1:Nat):Int)by omega]
    refine Wl hD hn hDn hn2 hs b1 k (t+1) (by omega) (by omega) fun c hc=>?_
    rw[e2]at hc;rcases List.mem_append.1 hc with hc|hc
    ·exact hin c hc
    ·rw[List.mem_singleton.1 hc];omega
  ·have htn:t=n:=by omega
   subst htn;have hall:∀c∈h,c.toNat≤9:=by rw[←hn,List.take_length]at hin;exact hin
   rw[if_neg (by omega),if_pos hall];have ef:zcf h t l=pdig h++[l]:=by rw[←hn];exact ztZ
   rw[ef];simp only[ziv hD hn hDn hn2 hall];have h13:(((l.toNat:Nat):Int)=13)↔l.toNat=13:=by omega
   have h12:(((l.toNat:Nat):Int)=12)↔l.toNat=12:=by omega
   have h15:(((l.toNat:Nat):Int)=15)↔l.toNat=15:=by omega
   simp only[h13,h12,h15];unfold zc8;generalize val ((pdig h).take (t-D))=v;cases f.Signed with
   |true=>
    by_cases c1:l.toNat=12
    ·simp[c1]
    ·by_cases c2:l.toNat=13
     ·simp[c2]
     ·simp[c1,c2]
   |false=>
    by_cases c1:l.toNat=15
    ·simp[c1]
    ·simp[c1]
theorem Wm{N:Nat}(hN:3000<N){f:form}{D:Nat}{b:List UInt8}(hD:f.Digits=(D:Int))(hb:1≤b.length)(hDn:D≤2*b.length-1)(hb2:b.length≤300)(b1:digits):∀(k t:Nat),1≤t→t≤b.length→b.length-t<k→
  qe N k (.inr (b,(b.length:Int),(t:Int),f,b1,nib (b.take t)))=some (rP f.Signed D b)
 |0,t,_,_,hk=>by omega
 |k+1,t,h0,ht,hk=>by
  show YJ N (qe N k) b (b.length:Int) (t:Int) f b1 (nib (b.take t))=_;unfold YJ;rw[zb];by_cases h1:t<b.length
  ·have hln:(nib (b.take t)).length=2*t:=by rw[zeL,List.length_take];omega
   rw[if_pos (by omega),zZ h1,za,jb,zx6,za,zsD,zn6 (by simp;omega),za,zu (by omega) (by omega),za,←znJ h1,show(t:Int)+1=((t+1:Nat):Int)by omega];exact Wm hN hD hb hDn hb2 b1 k (t+1) (by omega) (by omega) (by omega)
  ·have htb:t=b.length:=by omega
   subst htb;rw[List.take_length];have hln:=zeL b;have e1:(((nib b).length:Nat):Int)-1=((2*b.length-1:Nat):Int):=by omega
   have hin:zw 0 ((2*b.length-1:Nat):Int) (nib b).length=true:=by unfold zw;simp<;>omega
   have hsp:nib b=zcf ((nib b).take (2*b.length-1)) 0 ((nib b).getD (2*b.length-1) 0):=by unfold zcf pdig;rw[List.take_zero,List.map_nil,List.nil_append,List.drop_zero];have:=List.take_append_drop (2*b.length-1) (nib b);rw[List.drop_eq_getElem_cons (by omega),List.drop_eq_nil_of_le (by omega)]at this;rw[List.getD_eq_getElem?_getD,List.getElem?_eq_getElem (by omega)];exact this.symm
   rw[if_neg (by omega),e1,zu (by omega) (by omega),za,zZ (by omega),za,za,za,hin,za,jb,show((2*b.length-1:Nat):Int)-0=((2*b.length-1:Nat):Int)by omega];have:=Wl (N:=N) (f:=f) (D:=D) (n:=2*b.length-1) (h:=(nib b).take (2*b.length-1)) (l:=(nib b).getD (2*b.length-1) 0) hD (by rw[List.length_take];omega) hDn (by omega)
    (fun c hc=>zjm b c (List.mem_of_mem_take hc)) b1 N 0 (by omega) (by omega) (by simp)
   rw[←hsp]at this;exact this
theorem zpe{N:Nat}(hN:3000<N){f:form}{D:Nat}{b:List UInt8}(hD:f.Digits=(D:Int))(hb:1≤b.length)(hDn:D≤2*b.length-1)(hb2:b.length≤300):zaA N f b=some (rP f.Signed D b):=by
 unfold zaA;obtain⟨M,rfl⟩:∃M,N=M+1:=⟨N-1,by omega⟩
 show YK (M+1) (qe (M+1) M) b (b.length:Int) 0 f (digits.mk false [])=_;unfold YK;have:=znJ (b:=b) (i:=0) (by omega);rw[List.take_zero]at this;rw[zb,if_pos (by omega),show(0:Int)=((0:Nat):Int)from rfl,zZ (by omega),za,jb,zx6,za,zsD,zn6 (by simp),za,zu (by omega) (by omega),za];have e0:([]:List UInt8)++[UInt8.ofNat ((b.getD 0 0).toNat/16),UInt8.ofNat ((b.getD 0 0).toNat%16)]=nib (b.take (0+1)):=this.symm;rw[e0,show((0:Nat):Int)+1=((0+1:Nat):Int)by omega];exact Wm hN hD hb hDn hb2 _ M (0+1) (by omega) (by omega) (by omega)
def pk(l:UInt8):List UInt8→List UInt8
 |[]=>[]
 |[a]=>[UInt8.ofNat (16*(a.toNat-48)+l.toNat)]
 |a::c::r=>UInt8.ofNat (16*(a.toNat-48)+(c.toNat-48))::pk l r
def odd(s:List UInt8):List UInt8:=if s.length%2=0 then 48::s else s
def wP(sg ng:Bool)(s:List UInt8):List UInt8:=pk (if sg then(if ng then 13 else 12)else 15) (odd s)
theorem zp3(l:UInt8):∀s,s.length%2=1→(pk l s).length=s.length/2+1
 |[],h=>by simp at h
 |[a],_=>by simp[pk]
 |a::c::r,h=>by simp only[List.length_cons]at h;rw[pk,List.length_cons,zp3 l r (by omega),List.length_cons,List.length_cons];omega
theorem zx5{l:UInt8}(hl:l.toNat<16):∀s,s.length%2=1→Digs s→nib (pk l s)=(s.map fun c=>UInt8.ofNat (c.toNat-48))++[l]
 |[],h,_=>by simp at h
 |[a],_,hd=>by
  have ha:=(Digs.cons.1 hd).1;have e:(UInt8.ofNat (16*(a.toNat-48)+l.toNat)).toNat=16*(a.toNat-48)+l.toNat:=by rw[UInt8.toNat_ofNat'];omega
  rw[pk,nib,e,show(16*(a.toNat-48)+l.toNat)/16=a.toNat-48 by omega,show(16*(a.toNat-48)+l.toNat)%16=l.toNat by omega,UInt8.ofNat_toNat];rfl
 |a::c::r,h,hd=>by
  simp only[List.length_cons]at h;rw[Digs.cons,Digs.cons]at hd;obtain⟨ha,hc,hr⟩:=hd;have e:(UInt8.ofNat (16*(a.toNat-48)+(c.toNat-48))).toNat=16*(a.toNat-48)+(c.toNat-48):=by rw[UInt8.toNat_ofNat'];omega
  rw[pk,nib,e,show(16*(a.toNat-48)+(c.toNat-48))/16=a.toNat-48 by omega,show(16*(a.toNat-48)+(c.toNat-48))%16=c.toNat-48 by omega,zx5 hl r (by omega) hr];rfl
theorem zDK(l:UInt8):∀(s:List UInt8)(i:Nat),s.length%2=1→2*i<s.length→
  (pk l s).getD i 0=UInt8.ofNat (16*((s.getD (2*i) 0).toNat-48)+(if 2*i+1<s.length then(s.getD (2*i+1) 0).toNat-48 else l.toNat))
 |[],i,h,_=>by simp at h
 |[a],i,_,h=>by
  have:i=0:=by simp at h;omega
  subst this;rfl
 |a::c::r,0,_,_=>by rw[if_pos (by simp)];rfl
 |a::c::r,i+1,h,hi=>by
  simp only[List.length_cons]at h hi;have:=zDK l r i (by omega) (by omega);rw[pk,List.getD_cons_succ,this,show 2*(i+1)=2*i+1+1 by omega,List.getD_cons_succ,List.getD_cons_succ,List.getD_cons_succ,List.getD_cons_succ];simp only[List.length_cons];by_cases h2:2*i+1<r.length
  ·rw[if_pos h2,if_pos (by omega)]
  ·rw[if_neg h2,if_neg (by omega)]
theorem zsC(s:List UInt8):(odd s).length%2=1∧(odd s).length=2*(s.length/2)+1:=by
 unfold odd;split
 ·rw[List.length_cons];omega
 ·omega
theorem zx3{s:List UInt8}(h:Digs s):Digs (odd s):=by
 unfold odd;split
 ·exact Digs.cons.2 ⟨by decide,h⟩
 ·exact h
theorem zof{p:List UInt8}{t n:Nat}(ht:t<n)(hp:p.length=n):((p.take t++List.replicate (n-t) 0).set t (p.getD t 0))=p.take (t+1)++List.replicate (n-(t+1)) 0:=by
 have e:(p.take t).length=t:=by rw[List.length_take];omega
 have e2:p.take (t+1)=p.take t++[p.getD t 0]:=by rw[List.take_add_one,List.getElem?_eq_getElem (by omega),List.getD_eq_getElem?_getD,List.getElem?_eq_getElem (by omega)];rfl
 rw[List.set_append_right _ _ (by omega),e,Nat.sub_self,show n-t=(n-(t+1))+1 by omega,List.replicate_succ,List.set_cons_zero,e2];simp
theorem XL{N:Nat}{l:UInt8}(hl:l.toNat<16){s:List UInt8}{n:Nat}(ho:s.length%2=1)(hn:s.length/2+1=n)(hn2:n≤300)(hd:Digs s):∀(k t:Nat),t≤n→n-t<k→
  j7 N k ((l.toNat:Nat):Int) s (n:Int) (t:Int) ((pk l s).take t++List.replicate (n-t) 0)=some (pk l s)
 |0,t,_,hk=>by omega
 |k+1,t,ht,hk=>by
  have hpl:(pk l s).length=n:=by rw[zp3 l s ho];exact hn
  show Jx N (j7 N k) ((l.toNat:Nat):Int) s (n:Int) (t:Int) _=_;unfold Jx;rw[zb];by_cases h1:t<n
  ·have hlen:((pk l s).take t++List.replicate (n-t) (0:UInt8)).length=n:=by rw[List.length_append,List.length_take,List.length_replicate];omega
   have hat:=zDK l s t ho (by omega);have hD1:=yh hd (show 2*t<s.length by omega);have e2:(2:Int)*(t:Int)=((2*t:Nat):Int):=by omega
   have e3:((2*t:Nat):Int)+1=((2*t+1:Nat):Int):=by omega
   have step:∀w:Nat,w<16→(pk l s).getD t 0=UInt8.ofNat (16*((s.getD (2*t) 0).toNat-48)+w)→
     qB N (j7 N k) ((l.toNat:Nat):Int) s (t:Int) (w:Int) (n:Int) (t:Int) ((pk l s).take t++List.replicate (n-t) 0)=some (pk l s):=by
    intro w hw he;unfold qB;have e4:(((s.getD (2*t) 0).toNat:Nat):Int)-48=(((s.getD (2*t) 0).toNat-48:Nat):Int):=by omega
    have e5:((((s.getD (2*t) 0).toNat-48:Nat):Int)*2^(Int.toNat 4))=((16*((s.getD (2*t) 0).toNat-48):Nat):Int):=by show(((s.getD (2*t) 0).toNat-48:Nat):Int)*16=_;omega
    have w1:IntKind.wrap .u8 (((s.getD (2*t) 0).toNat-48:Nat):Int)=(((s.getD (2*t) 0).toNat-48:Nat):Int):=jv (by omega) (by omega);rw[e2,zu (by omega) (by omega),za,zZ (by omega),za,zZ (by omega),za,jb,e4,w1,e5,jv (by omega) (by omega),zFA (by omega) (by omega) (by omega),
     show(((16*((s.getD (2*t) 0).toNat-48):Nat):Int)+(w:Int))%256=((16*((s.getD (2*t) 0).toNat-48)+w:Nat):Int)by omega,Ql (by omega) (by omega),Bool.and_self,za,zu (by omega) (by omega),za,
     Int.toNat_natCast,Y5,←he,zof h1 hpl,show(t:Int)+1=((t+1:Nat):Int)by omega]
    exact XL hl ho hn hn2 hd k (t+1) (by omega) (by omega)
   rw[if_pos (by omega),e2,zu (by omega) (by omega),za,e3,zu (by omega) (by omega),za,zb,za,za];by_cases h2:2*t+1<s.length
   ·have hD2:=yh hd h2;have e4:(((s.getD (2*t+1) 0).toNat:Nat):Int)-48=(((s.getD (2*t+1) 0).toNat-48:Nat):Int):=by omega
    rw[if_pos (by omega),zZ h2,za,jb,e4,jv (by omega) (by omega)];exact step _ (by omega) (by rw[hat,if_pos h2])
   ·rw[if_neg (by omega)];exact step _ hl (by rw[hat,if_neg h2])
  ·have htn:t=n:=by omega
   subst htn;rw[if_neg (by omega),Nat.sub_self,List.replicate_zero,List.append_nil,List.take_of_length_le (by omega)]
theorem XM{N:Nat}(hN:3000<N){l:UInt8}(hl:l.toNat<16){s:List UInt8}(ho:s.length%2=1)(hs:s.length≤300)(hd:Digs s):qC N ((l.toNat:Nat):Int) s=some (pk l s):=by
 unfold qC;have e1:((s.length:Int)/2)+1=((s.length/2+1:Nat):Int):=by omega
 have e0:(zj (s.length:Int)&&decide (0<2)&&zd .i64 ((s.length:Int)/2))=true:=by rw[zu (by omega) (by omega)];simp[zj]
 have e2:zej 1 ((s.length/2+1:Nat):Int)=true:=by show(Nat.ble (1*(s.length/2+1)) 281474976710656&&Nat.ble (s.length/2+1) 9223372036854775807)=true;rw[Nat.ble_eq_true_of_le (by omega),Nat.ble_eq_true_of_le (by omega)];rfl
 rw[e0,za,e1,zu (by omega) (by omega),za,e2,decide_eq_true rfl,Bool.and_self,za,Int.toNat_natCast,List.length_replicate];have:=XL (N:=N) hl ho (n:=s.length/2+1) rfl (by omega) hd N 0 (by omega) (by omega);rw[List.take_zero,List.nil_append,Nat.sub_zero]at this;exact this
theorem zj7{N:Nat}(hN:3000<N){f:form}{d:digits}(hs:d.s.length≤200)(hd:Digs d.s):Jj N f d=some (wP f.Signed d.neg d.s):=by
 have k0:∀(w:Int)(l:UInt8),w=((l.toNat:Nat):Int)→l.toNat<16→yG N w d=some (pk l (odd d.s)):=by
  intro w l hw hl;subst hw;unfold yG odd;have e0:(zj (d.s.length:Int)&&decide (0<2))=true:=by simp[zj]
  rw[e0,za,zb];by_cases h:d.s.length%2=0
  ·rw[if_pos (by omega),if_pos h,zO (by simp;omega),za];exact XM hN hl (by simp;omega) (by simp;omega) (Digs.cons.2 ⟨by decide,hd⟩)
  ·rw[if_neg (by omega),if_neg h];exact XM hN hl (by omega) (by omega) hd
 unfold Jj wP;rw[k0 13 13 rfl (by decide),k0 12 12 rfl (by decide),k0 15 15 rfl (by decide)];cases f.Signed<;>cases d.neg<;>rfl
theorem zuJ{sg ng:Bool}{s:List UInt8}:(wP sg ng s).length=s.length/2+1:=by unfold wP;obtain⟨h1,h2⟩:=zsC s;rw[zp3 _ _ h1,h2];omega
theorem zxX{s:List UInt8}(hd:Digs s):pdig (s.map fun c=>UInt8.ofNat (c.toNat-48))=s:=by
 unfold pdig;rw[List.map_map];conv=>rhs;rw[←List.map_id s]
 refine List.map_congr_left fun c hc=>?_
 have h:=hd c hc;show UInt8.ofNat ((UInt8.ofNat (c.toNat-48)).toNat+48)=c;apply UInt8.toNat_inj.1;rw[UInt8.toNat_ofNat',UInt8.toNat_ofNat'];omega
theorem zFv{sg ng:Bool}{n:Nat}{s:List UInt8}(hs:s.length=n)(hd:Digs s):rP sg n (wP sg ng s)=(digits.mk (sg&&ng) s,true):=by
 obtain⟨h1,h2⟩:=zsC s;have hod:=zx3 hd;have hlen:=zuJ (sg:=sg) (ng:=ng) (s:=s);obtain⟨l,hl,hl16⟩:∃l:UInt8,l=(if sg then(if ng then 13 else 12)else 15)∧l.toNat<16:=⟨_,rfl,by cases sg<;>cases ng<;>decide⟩
 have hnib:nib (wP sg ng s)=((odd s).map fun c=>UInt8.ofNat (c.toNat-48))++[l]:=by unfold wP;rw[←hl];exact zx5 hl16 _ h1 hod
 have hm:2*(wP sg ng s).length-1=(odd s).length:=by omega
 unfold rP;rw[hm,hnib];have e1:(((odd s).map fun c=>UInt8.ofNat (c.toNat-48))++[l]).take (odd s).length=(odd s).map fun c=>UInt8.ofNat (c.toNat-48):=by rw[List.take_append_of_le_length (by simp),List.take_of_length_le (by simp)]
 have e2:(((odd s).map fun c=>UInt8.ofNat (c.toNat-48))++[l]).getD (odd s).length 0=l:=by rw[List.getD_eq_getElem?_getD,List.getElem?_append_right (by simp)];simp
 rw[e1,e2,zxX hod];have hall:∀c∈(odd s).map fun c=>UInt8.ofNat (c.toNat-48),c.toNat≤9:=by intro x hx;obtain⟨c,hc,rfl⟩:=List.mem_map.1 hx;have:=hod c hc;rw[UInt8.toNat_ofNat'];omega
 rw[if_pos hall];have e3:(odd s).drop ((odd s).length-n)=s:=by
  unfold odd;split
  ·rw[List.length_cons,hs,show n+1-n=1 by omega,List.drop_one,List.tail_cons]
  ·rw[hs,Nat.sub_self,List.drop_zero]
 have e4:val ((odd s).take ((odd s).length-n))=0:=by
  unfold odd;split
  ·rw[List.length_cons,hs,show n+1-n=1 by omega];rfl
  ·rw[hs,Nat.sub_self,List.take_zero];rfl
 rw[e3,e4,hl];cases sg<;>cases ng<;>simp[zc8]<;>decide
end Go.Proofs.C06
end
section
set_option maxRecDepth 100000
namespace Go.Proofs.C06
open Go Go.RowKit Go.Vc Go.Am Go.Dg
def bev(l:List UInt8):Nat:=l.foldl (fun a c=>256*a+c.toNat) 0
theorem K4(l:List UInt8)(c:UInt8):bev (l++[c])=256*bev l+c.toNat:=by unfold bev;rw[List.foldl_append];rfl
theorem JF{b:List UInt8}{i:Nat}(h:i<b.length):b.take (i+1)=b.take i++[b.getD i 0]:=by rw[List.take_add_one,List.getElem?_eq_getElem h,List.getD_eq_getElem?_getD,List.getElem?_eq_getElem h];rfl
theorem zre(b:List UInt8):∀n,n≤b.length→bev (b.take n)<256^n
 |0,_=>by simp[bev]
 |n+1,h=>by have ih:=zre b n (by omega);have hc:=zdG (b.getD n 0);rw[JF (by omega),K4,Nat.pow_succ];omega
def be:Nat→Nat→List UInt8
 |0,_=>[]
 |k+1,v=>be k (v/256)++[UInt8.ofNat (v%256)]
theorem zaj:∀k v,(be k v).length=k
 |0,_=>rfl
 |k+1,v=>by rw[be,List.length_append,zaj k];rfl
theorem zzh:∀k v,bev (be k v)=v%256^k
 |0,v=>by simp[be,bev,Nat.mod_one]
 |k+1,v=>by
  have e:(UInt8.ofNat (v%256)).toNat=v%256:=by rw[UInt8.toNat_ofNat'];omega
  rw[be,K4,zzh k,e,Nat.pow_succ,Nat.mul_comm (256^k) 256,Nat.mod_mul];omega
theorem zzi:∀(k v i:Nat),i<k→(be k v).getD i 0=UInt8.ofNat (v/256^(k-1-i)%256)
 |0,_,i,h=>by omega
 |k+1,v,i,h=>by
  rw[be];by_cases hi:i<k
  ·rw[List.getD_eq_getElem?_getD,List.getElem?_append_left (by rw[zaj];exact hi),←List.getD_eq_getElem?_getD,zzi k _ i hi,Nat.div_div_eq_div_mul,←Nat.pow_succ',show(k-1-i).succ=k+1-1-i by omega]
  ·have:i=k:=by omega
   subst this;rw[List.getD_eq_getElem?_getD,List.getElem?_append_right (by rw[zaj];omega),zaj,Nat.sub_self,show i+1-1-i=0 by omega,Nat.pow_zero,Nat.div_one];rfl
theorem zjA:∀(t m:Nat),fmt (t+1) m=UInt8.ofNat (48+m/10^t%10)::fmt t m
 |0,m=>by simp[fmt]
 |t+1,m=>by rw[fmt,zjA t (m/10),List.cons_append,Nat.div_div_eq_div_mul,←Nat.pow_succ'];rfl
def rB(sg:Bool)(D:Nat)(b:List UInt8):digits×Bool:=(digits.mk (sg&&decide (128≤(b.getD 0 0).toNat)) (fmt D (if sg&&decide (128≤(b.getD 0 0).toNat)then 256^b.length-bev b else bev b)),decide ((if sg&&decide (128≤(b.getD 0 0).toNat)then 256^b.length-bev b else bev b)<10^D))
theorem Wn{N:Nat}{D m:Nat}(hD:D≤100)(hm:m<18446744073709551616)(ng:Bool)(b0:digits):∀(k t:Nat),t≤D→D-t<k→
  JC N k ((m/10^t:Nat):Int) ng (fmt t m) (D:Int) (t:Int) b0=some (digits.mk ng (fmt D m),decide (m<10^D))
 |0,t,_,hk=>by omega
 |k+1,t,ht,hk=>by
  show QU N (JC N k) ((m/10^t:Nat):Int) ng (fmt t m) (D:Int) (t:Int) b0=_;unfold QU;rw[zb];have hle:m/10^t≤m:=Nat.div_le_self _ _;by_cases h1:t<D
  ·have e0:(zj ((m/10^t:Nat):Int)&&decide (0<10))=true:=by unfold zj;rw[decide_eq_true (Int.natCast_nonneg _)];rfl
   have e1:((m/10^t:Nat):Int)%10=((m/10^t%10:Nat):Int):=by omega
   have e2:((m/10^t:Nat):Int)/10=((m/10^(t+1):Nat):Int):=by rw[Nat.pow_succ,←Nat.div_div_eq_div_mul];omega
   have hlt:m/10^t%10<10:=Nat.mod_lt _ (by decide);have hw:IntKind.wrap .u64 (((m/10^t%10:Nat):Int)+1)=((m/10^t%10:Nat):Int)+1:=by rw[wrap_u64];omega
   have hsub:Vc.sub ([48,49,50,51,52,53,54,55,56,57]:List UInt8) ((m/10^t%10:Nat):Int) (((m/10^t%10:Nat):Int)+1)=[UInt8.ofNat (48+m/10^t%10)]:=by
    have:∀q:Fin 10,Vc.sub ([48,49,50,51,52,53,54,55,56,57]:List UInt8) ((q.val:Nat):Int) (((q.val:Nat):Int)+1)=[UInt8.ofNat (48+q.val)]:=by decide
    exact this ⟨m/10^t%10,hlt⟩
   have hin:zw ((m/10^t%10:Nat):Int) (((m/10^t%10:Nat):Int)+1) ([48,49,50,51,52,53,54,55,56,57]:List UInt8).length=true:=by unfold zw;simp<;>omega
   have hu:zd .u64 ((m/10^(t+1):Nat):Int)=true:=yA.2 ⟨Int.natCast_nonneg _,by
    show _≤(18446744073709551615:Int);have h:=Nat.div_le_self m (10^(t+1));generalize m/10^(t+1)=q at h⊢;omega⟩
   have e3:[UInt8.ofNat (48+m/10^t%10)]++fmt t m=fmt (t+1) m:=(zjA t m).symm;rw[if_pos (by omega),e0,za,za,e1,hw,hin,za,hsub,zO (by rw[zK];simp;omega),za,Bool.true_and,e2,hu,za,zu (by omega) (by omega),za,e3,show(t:Int)+1=((t+1:Nat):Int)by omega];exact Wn hD hm ng b0 k (t+1) (by omega) (by omega)
  ·have htD:t=D:=by omega
   subst htD;rw[if_neg (by omega)];congr 2;rw[decide_eq_decide];have hp:=pow_pos t;constructor
   ·intro h;have h:m/10^t=0:=by omega
    rcases Nat.div_eq_zero_iff.1 h with h|h
    ·omega
    ·exact h
   ·intro h;rw[Nat.div_eq_of_lt h];rfl
theorem Zu{N:Nat}(hN:3000<N){f:form}{D m:Nat}(hfD:f.Digits=(D:Int))(hD:D≤100)(hm:m<18446744073709551616)(ng:Bool)(b0:digits):q6 N (m:Int) ng f b0=some (digits.mk ng (fmt D m),decide (m<10^D)):=by unfold q6;rw[hfD];have:=Wn (N:=N) hD hm ng b0 N 0 (by omega) (by omega);rw[Nat.pow_zero,Nat.div_one]at this;exact this
theorem zm5{b:List UInt8}(h:1≤b.length):∀n,1≤n→n≤b.length→bev (b.take n)/256^(n-1)=(b.getD 0 0).toNat
 |0,h0,_=>by omega
 |1,_,_=>by rw[JF (by omega),List.take_zero,K4];simp[bev]
 |n+2,_,hn=>by have ih:=zm5 h (n+1) (by omega) (by omega);have hc:=zdG (b.getD (n+1) 0);rw[JF (by omega),K4,show n+2-1=(n+1-1)+1 by omega,Nat.pow_succ',←Nat.div_div_eq_div_mul,show(256*bev (b.take (n+1))+(b.getD (n+1) 0).toNat)/256=bev (b.take (n+1))by omega];exact ih
theorem Wo{N:Nat}(hN:3000<N){f:form}{D:Nat}{b:List UInt8}(hfD:f.Digits=(D:Int))(hD:D≤100)(hb:b.length=2∨b.length=4∨b.length=8)(d:digits):∀(k t:Nat),t≤b.length→b.length-t<k→
  JD N k b ((bev (b.take t):Nat):Int) b (b.length:Int) (t:Int) f d=some (rB f.Signed D b)
 |0,t,_,hk=>by omega
 |k+1,t,ht,hk=>by
  show QV N (JD N k) b ((bev (b.take t):Nat):Int) b (b.length:Int) (t:Int) f d=_;unfold QV;rw[zb];by_cases h1:t<b.length
  ·have hlt:=zre b t (by omega);have hlt7:bev (b.take t)<72057594037927936:=Nat.lt_of_lt_of_le hlt (by have:=Nat.pow_le_pow_right (show 0<256 by decide) (show t≤7 by omega);simpa using this);have hc:=zdG (b.getD t 0);have e1:((bev (b.take t):Nat):Int)*2^(Int.toNat 8)=((256*bev (b.take t):Nat):Int):=by show((bev (b.take t):Nat):Int)*256=_;omega
   have e2:bits .or .u64 (IntKind.wrap .u64 (((bev (b.take t):Nat):Int)*2^(Int.toNat 8))) (IntKind.wrap .u64 (((b.getD t 0).toNat:Nat):Int))=((bev (b.take (t+1)):Nat):Int):=by rw[e1,wrap_u64,wrap_u64,zEE (by omega) (by omega) (by omega),JF h1,K4];omega
   rw[if_pos (by omega),zZ h1,za,zu (by omega) (by omega),za,jb,e2,show(t:Int)+1=((t+1:Nat):Int)by omega];exact Wo hN hfD hD hb d k (t+1) (by omega) (by omega)
  ·have htb:t=b.length:=by omega
   subst htb;have hlt:=zre b b.length (Nat.le_refl _);have htop:=zm5 (b:=b) (by omega) b.length (by omega) (Nat.le_refl _);rw[List.take_length]at hlt htop⊢;rw[if_neg (by omega),zZ (show 0<b.length by omega)|>fun h=>(show zA 0 b.length=true from h),za];have eb:byteAt b 0=(((b.getD 0 0).toNat:Nat):Int):=rfl;have e128:((128:Int)≤(((b.getD 0 0).toNat:Nat):Int))↔128≤(b.getD 0 0).toNat:=by omega
   have hno:∀ng,ng=false→q7 N b ((bev b:Nat):Int) ng f d=some (digits.mk false (fmt D (bev b)),decide (bev b<10^D)):=by rintro _ rfl;unfold q7;rw[cond_false];refine Zu hN hfD hD ?_ _ _;rcases hb with h|h|h<;>rw[h]at hlt<;>omega
   unfold rB;cases f.Signed with
   |false=>rw[cond_false,hno _ rfl];simp
   |true=>
    rw[cond_true,eb];by_cases hg:128≤(b.getD 0 0).toNat
    ·rw[decide_eq_true (e128.2 hg),decide_eq_true hg];simp only[Bool.and_self,if_true];unfold q7;rw[cond_true,zb];rcases hb with h|h|h
     ·rw[h]at hlt htop⊢;have w1:IntKind.wrap .u64 (-((bev b:Nat):Int))=18446744073709551616-((bev b:Nat):Int):=by rw[wrap_u64];omega
      have w2:IntKind.wrap .u64 (IntKind.wrap .u64 (1*2^(8*((2:Nat):Int)).toNat)-1)=((2^16-1:Nat):Int):=by decide
      have w3:bits .and .u64 (18446744073709551616-((bev b:Nat):Int)) ((2^16-1:Nat):Int)=((256^2-bev b:Nat):Int):=by rw[XD (by decide),wrap_u64];omega
      rw[if_pos (by decide),zu (by decide) (by decide),za,show(zj (8*((2:Nat):Int))&&Nat.ble (8*((2:Nat):Int)).toNat 64)=true by decide,za,w1,w2,w3];exact Zu hN hfD hD (by omega) _ _
     ·rw[h]at hlt htop⊢;have w1:IntKind.wrap .u64 (-((bev b:Nat):Int))=18446744073709551616-((bev b:Nat):Int):=by rw[wrap_u64];omega
      have w2:IntKind.wrap .u64 (IntKind.wrap .u64 (1*2^(8*((4:Nat):Int)).toNat)-1)=((2^32-1:Nat):Int):=by decide
      have w3:bits .and .u64 (18446744073709551616-((bev b:Nat):Int)) ((2^32-1:Nat):Int)=((256^4-bev b:Nat):Int):=by rw[XD (by decide),wrap_u64];omega
      rw[if_pos (by decide),zu (by decide) (by decide),za,show(zj (8*((4:Nat):Int))&&Nat.ble (8*((4:Nat):Int)).toNat 64)=true by decide,za,w1,w2,w3];exact Zu hN hfD hD (by omega) _ _
     ·rw[h]at hlt htop⊢;have w1:IntKind.wrap .u64 (-((bev b:Nat):Int))=((256^8-bev b:Nat):Int):=by rw[wrap_u64];omega
      rw[if_neg (by decide),w1];exact Zu hN hfD hD (by omega) _ _
    ·rw[decide_eq_false (fun h=>hg (e128.1 h)),decide_eq_false hg,hno _ rfl];simp
theorem zpg{N:Nat}(hN:3000<N){f:form}{D:Nat}{b:List UInt8}(hfD:f.Digits=(D:Int))(hD:D≤100)(hb:b.length=2∨b.length=4∨b.length=8):zaB N f b=some (rB f.Signed D b):=by unfold zaB;exact Wo hN hfD hD hb _ N 0 (by omega) (by omega)
def wB(k:Nat)(ng:Bool)(s:List UInt8):List UInt8:=be k (if ng then(18446744073709551616-val s)%18446744073709551616 else val s)
theorem XN{N:Nat}{f:form}{x k:Nat}(hk:f.Size=(k:Int))(hk8:k≤8):∀(n t:Nat),t≤k→k-t<n→
  qD N n (x:Int) (k:Int) (t:Int) f ((be k x).take t++List.replicate (k-t) 0)=some (be k x)
 |0,t,_,hn=>by omega
 |n+1,t,ht,hn=>by
  have hl:=zaj k x;show Jy N (qD N n) (x:Int) (k:Int) (t:Int) f _=_;unfold Jy;rw[zb];by_cases h1:t<k
  ·have hlen:((be k x).take t++List.replicate (k-t) (0:UInt8)).length=k:=by rw[List.length_append,List.length_take,List.length_replicate];omega
   have e1:(f.Size-1)-(t:Int)=((k-1-t:Nat):Int):=by omega
   have e2:(8:Int)*((k-1-t:Nat):Int)=((8*(k-1-t):Nat):Int):=by omega
   have e3:(zj ((8*(k-1-t):Nat):Int)&&Nat.ble (((8*(k-1-t):Nat):Int)).toNat 64)=true:=by rw[Int.toNat_natCast,Nat.ble_eq_true_of_le (by omega),Bool.and_true];exact decide_eq_true (by omega)
   have e4:(x:Int)/2^(((8*(k-1-t):Nat):Int)).toNat=((x/256^(k-1-t):Nat):Int):=by
    have e:(2:Int)^(8*(k-1-t))=((256^(k-1-t):Nat):Int):=by
     rw[show(256:Nat)=2^8 from rfl,←Nat.pow_mul]
     norm_cast
    rw[Int.toNat_natCast,e,←Int.natCast_ediv]
   have e5:IntKind.wrap .u8 ((x/256^(k-1-t):Nat):Int)=((x/256^(k-1-t)%256:Nat):Int):=by rw[zmM];omega
   rw[if_pos (by omega),zu (by omega) (by omega),za,e1,zu (by omega) (by omega),za,e2,zu (by omega) (by omega),za,e3,za,zZ (by omega),za,e4,e5,Ql (by omega) (by omega),Bool.and_self,za,
    zu (by omega) (by omega),za,Int.toNat_natCast,Y5,←zzi k x t h1,zof h1 hl,show(t:Int)+1=((t+1:Nat):Int)by omega]
   exact XN hk hk8 n (t+1) (by omega) (by omega)
  ·have:t=k:=by omega
   subst this;rw[if_neg (by omega),Nat.sub_self,List.replicate_zero,List.append_nil,List.take_of_length_le (by omega)]
theorem XP{N:Nat}(hN:3000<N){f:form}{x k:Nat}(hk:f.Size=(k:Int))(hk8:k≤8):qF N (x:Int) f=some (be k x):=by
 unfold qF;have e2:zej 1 (k:Int)=true:=by show(Nat.ble (1*k) 281474976710656&&Nat.ble k 9223372036854775807)=true;rw[Nat.ble_eq_true_of_le (by omega),Nat.ble_eq_true_of_le (by omega)];rfl
 rw[hk,e2,decide_eq_true rfl,Bool.and_self,za,Int.toNat_natCast,List.length_replicate];have:=XN (N:=N) (x:=x) hk hk8 N 0 (by omega) (by omega);rw[List.take_zero,List.nil_append,Nat.sub_zero]at this;exact this
theorem XO{N:Nat}(hN:3000<N){f:form}{d:digits}{k:Nat}(hk:f.Size=(k:Int))(hk8:k≤8)(hs:d.s.length≤18)(hd:Digs d.s):∀(n t:Nat),t≤d.s.length→d.s.length-t<n→
  qE N n ((val (d.s.take t):Nat):Int) (d.s.length:Int) (t:Int) f d=some (wB k d.neg d.s)
 |0,t,_,hn=>by omega
 |n+1,t,ht,hn=>by
  show Jz N (qE N n) ((val (d.s.take t):Nat):Int) (d.s.length:Int) (t:Int) f d=_;unfold Jz;rw[zb];have hv:=jw (hd.take t);have hv18:val (d.s.take t)<1000000000000000000:=Nat.lt_of_lt_of_le hv (by
   have:=Nat.pow_le_pow_right (show 0<10 by decide) (show(d.s.take t).length≤18 by rw[List.length_take];omega);simpa using this)
  by_cases h1:t<d.s.length
  ·have hc:=yh hd h1;have e1:(((d.s.getD t 0).toNat:Nat):Int)-48=(((d.s.getD t 0).toNat-48:Nat):Int):=by omega
   have e2:IntKind.wrap .u64 (IntKind.wrap .u64 (10*((val (d.s.take t):Nat):Int))+IntKind.wrap .u64 (IntKind.wrap .u8 ((((d.s.getD t 0).toNat:Nat):Int)-48)))=((val (d.s.take (t+1)):Nat):Int):=by rw[e1,jv (by omega) (by omega),wrap_u64,wrap_u64,wrap_u64,JF h1,zax];omega
   rw[if_pos (by omega),zZ h1,za,zu (by omega) (by omega),za,jb,e2,show(t:Int)+1=((t+1:Nat):Int)by omega];exact XO hN hk hk8 hs hd n (t+1) (by omega) (by omega)
  ·have:t=d.s.length:=by omega
   subst this;rw[List.take_length]at hv18⊢;rw[if_neg (by omega)];unfold wB;cases d.neg with
   |true=>
    have e:IntKind.wrap .u64 (-((val d.s:Nat):Int))=(((18446744073709551616-val d.s)%18446744073709551616:Nat):Int):=by rw[wrap_u64];omega
    rw[cond_true,e,XP hN hk hk8];rfl
   |false=>rw[cond_false,XP hN hk hk8];rfl
theorem zj8{N:Nat}(hN:3000<N){f:form}{d:digits}{k:Nat}(hk:f.Size=(k:Int))(hk8:k≤8)(hs:d.s.length≤18)(hd:Digs d.s):Jk N f d=some (wB k d.neg d.s):=by unfold Jk;have:=XO (N:=N) hN hk hk8 hs hd N 0 (by omega) (by omega);rw[List.take_zero]at this;exact this
theorem zD3{k:Nat}{ng:Bool}{s:List UInt8}:(wB k ng s).length=k:=zaj _ _
def Y0(n:Nat):Nat:=if n≤4 then 2 else if n≤9 then 4 else 8
theorem zFw{sg ng:Bool}{n:Nat}{s:List UInt8}(hn:n≤18)(hs:s.length=n)(hd:Digs s)(hsg:ng=true→sg=true∧val s≠0):rB sg n (wB (Y0 n) ng s)=(digits.mk ng s,true):=by
 have hv:=jw hd;rw[hs]at hv;have hf:fmt n (val s)=s:=by rw[←hs];exact zsL hd
 have hbound:Y0 n=2∧val s<10000∨Y0 n=4∧val s<1000000000∨Y0 n=8∧val s<1000000000000000000:=by
  unfold Y0;have hle:∀m,n≤m→val s<10^m:=fun m hm=>Nat.lt_of_lt_of_le hv (Nat.pow_le_pow_right (by decide) hm)
  by_cases h4:n≤4
  ·rw[if_pos h4];exact .inl ⟨rfl,by simpa using hle 4 h4⟩
  ·rw[if_neg h4];by_cases h9:n≤9
   ·rw[if_pos h9];exact .inr (.inl ⟨rfl,by simpa using hle 9 h9⟩)
   ·rw[if_neg h9];exact .inr (.inr ⟨rfl,by simpa using hle 18 hn⟩)
 have key:∀(k x:Nat),1≤k→(be k x).getD 0 0=UInt8.ofNat (x/256^(k-1)%256):=fun k x h=>zzi k x 0 (by omega)
 have kb:∀(k x:Nat),1≤k→((be k x).getD 0 0).toNat=x/256^(k-1)%256:=fun k x h=>by rw[key k x h,UInt8.toNat_ofNat'];omega
 unfold rB wB;rw[zzh,zaj];cases ng with
 |false=>
  have h0:¬128≤((be (Y0 n) (val s)).getD 0 0).toNat:=by rcases hbound with⟨hk,hb⟩|⟨hk,hb⟩|⟨hk,hb⟩<;>rw[hk,kb _ _ (by decide)]<;>simp<;>omega
  have h1:val s%256^Y0 n=val s:=Nat.mod_eq_of_lt (by rcases hbound with⟨hk,hb⟩|⟨hk,hb⟩|⟨hk,hb⟩<;>rw[hk]<;>omega);simp only[Bool.false_eq_true,if_false,decide_eq_false h0,Bool.and_false,h1,hf,decide_eq_true hv]
 |true=>
  obtain⟨rfl,h00⟩:=hsg rfl;have hx:(18446744073709551616-val s)%18446744073709551616=18446744073709551616-val s:=by rcases hbound with⟨hk,hb⟩|⟨hk,hb⟩|⟨hk,hb⟩<;>omega
  have h0:128≤((be (Y0 n) (18446744073709551616-val s)).getD 0 0).toNat:=by rcases hbound with⟨hk,hb⟩|⟨hk,hb⟩|⟨hk,hb⟩<;>rw[hk,kb _ _ (by decide)]<;>simp<;>omega
  have h1:256^Y0 n-(18446744073709551616-val s)%256^Y0 n=val s:=by rcases hbound with⟨hk,hb⟩|⟨hk,hb⟩|⟨hk,hb⟩<;>rw[hk]<;>omega
  simp only[if_true,hx,decide_eq_true h0,Bool.and_self,h1,hf,decide_eq_true hv]
end Go.Proofs.C06
end
section
set_option maxRecDepth 100000
namespace Go.Proofs.C06
open Go Go.RowKit Go.Vc Go.Am Go.Dg
theorem Wv(N:Nat)(neg:Bool)(b:Decimal):∀(m n:Nat)(l:List UInt8)(s:Nat),s=m→m<n→Digs l→(∃c r,l=c::r∧c≠48)→l.length≤2000→s≤2000→
  JV N n neg l (s:Int) b=some (Decimal.mk neg (dstr (zR s (val l)).1) ((zR s (val l)).2:Int))
 |m,0,l,s,hm,hn,_,_,_,_=>by omega
 |m,n+1,l,s,hm,hn,hd,⟨c,r,hcr,hc⟩,hl,hs=>by
  have hself:dstr (val l)=l:=zmo hd fun c' r' h=>by rw[hcr]at h;cases h;exact hc
  show Xe N (JV N n) neg l (s:Int) b=_;unfold Xe;rw[zb];cases s with
  |zero=>rw[if_neg (by omega)];simp only[zR,hself]
  |succ q=>
   rcases List.eq_nil_or_concat l with h0|⟨t,x,h0⟩
   ·rw[h0]at hcr;cases hcr
   ·rw[List.concat_eq_append]at h0;subst h0;rw[List.length_append]at hl;simp only[List.length_cons,List.length_nil]at hl;rw[Digs.append,Digs.cons]at hd;have hv:=zax t x;have hx:=hd.2.1;have e1:(((t++[x]).length:Int)-1)=(t.length:Int):=by simp
    have hat:byteAt (t++[x]) (t.length:Int)=((x.toNat:Nat):Int):=by unfold byteAt;rw[Int.toNat_natCast,List.getD_eq_getElem?_getD,List.getElem?_append_right (Nat.le_refl _),Nat.sub_self];rfl
    have h48:(((x.toNat:Nat):Int)=48)↔x=48:=zgh (k:=48) (by decide);rw[if_pos (by omega),e1,zu (by omega) (by omega),za,zZ (by simp),za,hat,zb];by_cases hx0:x=48
    ·have ht:∃c r,t=c::r∧c≠48:=by
      cases t with
      |nil=>cases hcr;exact absurd hx0 hc
      |cons c' r'=>cases hcr;exact⟨_,_,rfl,hc⟩
     have hin:zw 0 (t.length:Int) (t++[x]).length=true:=by unfold zw;simp<;>omega
     have e3:jz (t++[x]) (t.length:Int)=t:=by unfold jz;simp
     have e4:zR (q+1) (val (t++[x]))=zR q (val t):=by subst hx0;rw[hv,zR,if_pos (by simp)];congr 1;simp
     rw[if_pos (h48.2 hx0),za,hin,za,show((q+1:Nat):Int)-1=(q:Int)by omega,zu (by omega) (by omega),za,e3,
      Wv N neg b q n t q rfl (by omega) hd.1 ht (by omega) (by omega),e4]
    ·have hx1:x.toNat≠48:=fun e=>hx0 (UInt8.toNat_inj.1 e)
     have e4:zR (q+1) (val (t++[x]))=(val (t++[x]),q+1):=by rw[zR,if_neg (by rw[hv];omega)]
     rw[if_neg (fun h=>hx0 (h48.1 h)),e4,hself]
theorem Ww{N:Nat}(hN:3000<N)(neg:Bool){l:List UInt8}(hd:Digs l)(hl:l.length≤2000){s:Nat}(hs:s≤2000)(h0:l=[]∨∃c r,l=c::r∧c≠48)(b:Decimal):
  JW N neg l (s:Int) b=some (yQ (canon neg (val l) s)):=by
 unfold JW;rw[zb];rcases h0 with rfl|⟨c,r,hcr,hc⟩
 ·rw[if_pos rfl];rw[zay,qm];rfl
 ·rw[if_neg (by rw[hcr];simp),Wv N neg b s N l s rfl (by omega) hd ⟨c,r,hcr,hc⟩ hl hs];have hv:val l≠0:=fun e=>by have:=(WJ hd).2 e;rw[hcr,zew,if_neg hc]at this;cases this
  unfold canon;rw[if_neg hv];rfl
theorem Wu{N:Nat}(hN:3000<N)(neg:Bool){s:Nat}(hs:s≤2000)(b:Decimal):∀(n:Nat)(l:List UInt8),l.length<n→Digs l→l.length≤2000→
  JU N n neg l (s:Int) b=some (yQ (canon neg (val l) s))
 |0,l,h,_,_=>by omega
 |n+1,l,h,hd,hl=>by
  show Xd N (JU N n) neg l (s:Int) b=_;unfold Xd;rw[zb];cases l with
  |nil=>rw[if_neg (by simp)];exact Ww hN neg hd hl hs (.inl rfl) b
  |cons c r=>
   have h48:(((c.toNat:Nat):Int)=48)↔c=48:=zgh (k:=48) (by decide);have eb:byteAt (c::r) 0=((c.toNat:Nat):Int):=rfl;have hin0:zA 0 (c::r).length=true:=zZ (i:=0) (by simp);simp only[List.length_cons]at h hl;rw[if_pos (by simp<;>omega),hin0,za,eb,zb];by_cases hc:c=48
   ·have hin:zw 1 ((c::r).length:Int) (c::r).length=true:=by unfold zw;simp<;>omega
    have ed:zM (c::r) 1=r:=rfl;rw[if_pos (h48.2 hc),hin,za,ed,Wu hN neg hs b n r (by omega) (Digs.cons.1 hd).2 (by omega)];subst hc;rw[jN];simp
   ·rw[if_neg (fun h=>hc (h48.1 h))];exact Ww hN neg hd (by simp<;>omega) hs (.inr ⟨c,r,rfl,hc⟩) b
theorem zqk{N:Nat}(hN:3000<N)(neg:Bool){l:List UInt8}(hd:Digs l)(hl:l.length≤2000){s:Nat}(hs:s≤2000):zga N neg l (s:Int)=some (yQ (canon neg (val l) s)):=by unfold zga;exact Wu hN neg hs _ N l (by omega) hd hl
end Go.Proofs.C06
end
section
set_option maxRecDepth 100000
namespace Go.Proofs.C06
open Go Go.RowKit Go.Vc Go.Am Go.Dg
theorem zpi{b:List UInt8}{i:Nat}(h:i<b.length):b.take (i+1)=b.take i++[b.getD i 0]:=by rw[List.take_add_one,List.getElem?_eq_getElem h,List.getD_eq_getElem?_getD,List.getElem?_eq_getElem h];rfl
theorem zqu:qV ((0:Nat):Int)=some [UInt8.ofNat (48+0)]:=by kernel_rfl
theorem zqt:qV ((1:Nat):Int)=some [UInt8.ofNat (48+1)]:=by kernel_rfl
theorem zqs:qV ((2:Nat):Int)=some [UInt8.ofNat (48+2)]:=by kernel_rfl
theorem zqr:qV ((3:Nat):Int)=some [UInt8.ofNat (48+3)]:=by kernel_rfl
theorem zqq:qV ((4:Nat):Int)=some [UInt8.ofNat (48+4)]:=by kernel_rfl
theorem zqp:qV ((5:Nat):Int)=some [UInt8.ofNat (48+5)]:=by kernel_rfl
theorem zqo:qV ((6:Nat):Int)=some [UInt8.ofNat (48+6)]:=by kernel_rfl
theorem zqn:qV ((7:Nat):Int)=some [UInt8.ofNat (48+7)]:=by kernel_rfl
theorem zqm:qV ((8:Nat):Int)=some [UInt8.ofNat (48+8)]:=by kernel_rfl
theorem zql:qV ((9:Nat):Int)=some [UInt8.ofNat (48+9)]:=by kernel_rfl
theorem ztT{d:Nat}(h:d<10):qV (d:Int)=some [UInt8.ofNat (48+d)]:=by
 have:∀m:Fin 10,qV ((m.val:Nat):Int)=some [UInt8.ofNat (48+m.val)]:=by
  intro m
  match m with
  |⟨0,_⟩=>exact zqu
  |⟨1,_⟩=>exact zqt
  |⟨2,_⟩=>exact zqs
  |⟨3,_⟩=>exact zqr
  |⟨4,_⟩=>exact zqq
  |⟨5,_⟩=>exact zqp
  |⟨6,_⟩=>exact zqo
  |⟨7,_⟩=>exact zqn
  |⟨8,_⟩=>exact zqm
  |⟨9,_⟩=>exact zql
 exact this ⟨d,h⟩
def zcv(l:List UInt8):List UInt8:=l.map fun c=>UInt8.ofNat (48+c.toNat%10)
theorem zjI(l:List UInt8):Digs (zcv l):=by intro x hx;unfold zcv at hx;obtain⟨c,_,rfl⟩:=List.mem_map.1 hx;rw[QF (Nat.mod_lt _ (by decide))];omega
theorem zjo{N:Nat}(hN:3000<N){x:Num}{sc:Nat}(hs:x.Scale=(sc:Int))(b1:Decimal):∀(k i:Nat),i≤x.Digits.length→i≤62→62-i<k→
  ∃l,zhd N k (zcv (x.Digits.take i)) (i:Int) x b1=some (yQ (canon x.Neg (val (zcv l)) (sc%63)))∧l.length≤62
 |0,i,_,_,hk=>by omega
 |k+1,i,hi,h62,hk=>by
  have hk0:∀l:List UInt8,l.length≤62→zhe N (zcv l) x b1=some (yQ (canon x.Neg (val (zcv l)) (sc%63))):=by
   intro l hl;unfold zhe;have e1:(zj x.Scale&&decide (0<63))=true:=by rw[hs];simp[zj]
   have e2:x.Scale%63=((sc%63:Nat):Int):=by rw[hs];omega
   rw[e1,za,e2,zu (by omega) (by omega),za,zqk hN _ (zjI l) (by unfold zcv;simp;omega) (by omega),zc]
  show∃l,zhc N (zhd N k) (zcv (x.Digits.take i)) (i:Int) x b1=_∧_;unfold zhc;rw[zb];have hlen:(x.Digits.take i).length≤62:=by rw[List.length_take];omega
  by_cases c:i<x.Digits.length
  ·rw[if_pos (by omega),zb];by_cases c2:i<62
   ·have e0:(zj ((((x.Digits.getD i 0).toNat:Nat):Int))&&decide (0<10))=true:=by simp[zj]
    have e1:(((x.Digits.getD i 0).toNat:Nat):Int)%10=(((x.Digits.getD i 0).toNat%10:Nat):Int):=by omega
    have e2:zcv (x.Digits.take i)++[UInt8.ofNat (48+(x.Digits.getD i 0).toNat%10)]=zcv (x.Digits.take (i+1)):=by rw[zpi c];unfold zcv;rw[List.map_append];rfl
    have hdl:(zcv (x.Digits.take i)).length≤62:=by unfold zcv;rw[List.length_map];exact hlen
    rw[if_pos (by omega),zZ c,za,jb,e0,za,e1,zu (by omega) (by omega),za,ztT (Nat.mod_lt _ (by decide)),zc,zO (by simp;omega),za,zu (by omega) (by omega),za,e2,
     show(i:Int)+1=((i+1:Nat):Int)by omega]
    exact zjo hN hs b1 k (i+1) (by omega) (by omega) (by omega)
   ·rw[if_neg (by omega),hk0 _ hlen];exact⟨_,rfl,hlen⟩
  ·rw[if_neg (by omega),hk0 _ hlen];exact⟨_,rfl,hlen⟩
theorem zEK{N:Nat}(hN:3000<N){x:Num}(hs:0≤x.Scale):∃d,nOf N x=some d∧VD d:=by obtain⟨l,h1,h2⟩:=zjo (N:=N) hN (x:=x) (sc:=x.Scale.toNat) (by omega) (Decimal.mk false [] 0) N 0 (by omega) (by omega) (by omega);refine⟨_,h1,VD.of (yN (by decide) ?_) (Nat.le_trans (ji _ _ _) (by omega))⟩;have:=jw (zjI l);refine Nat.lt_of_lt_of_le this (Nat.pow_le_pow_right (by decide) ?_);unfold zcv;rw[List.length_map];exact h2
end Go.Proofs.C06
end
section
set_option maxRecDepth 100000
namespace Go.Proofs.C06
open Go Go.RowKit Go.Vc Go.Am Go.Dg
end Go.Proofs.C06
end
