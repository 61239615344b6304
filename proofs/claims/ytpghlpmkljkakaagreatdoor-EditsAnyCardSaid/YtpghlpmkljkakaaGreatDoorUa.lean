/-
  A part of the proof of the laws on edits.
-/
import Derived.Lib.SlTrimSet
import Derived.Lib.Strings
import Derived.Laws.Entries
import Derived.Test.YtpghlpmkljkakaaGreatDoorS3
import Derived.Test.YtpghlpmkljkakaaGreatDoorPa
import Derived.Test.YtpghlpmkljkakaaGreatDoorS4
import Derived.Test.YtpghlpmkljkakaaGreatDoorS5c
section
namespace Go.Dg
def Digs(l:List UInt8):Prop:=∀c∈l,48≤c.toNat∧c.toNat≤57
instance(l:List UInt8):Decidable (Digs l):=by unfold Digs;infer_instance
theorem Digs.nil:Digs []:=by simp[Digs]
theorem Digs.cons{c:UInt8}{l:List UInt8}:Digs (c::l)↔(48≤c.toNat∧c.toNat≤57)∧Digs l:=by simp[Digs]
theorem Digs.append{a b:List UInt8}:Digs (a++b)↔Digs a∧Digs b:=by
 unfold Digs;constructor
 ·intro h;exact⟨fun c hc=>h c (List.mem_append_left _ hc),fun c hc=>h c (List.mem_append_right _ hc)⟩
 ·rintro⟨h1,h2⟩ c hc;rcases List.mem_append.1 hc with h|h
  ·exact h1 c h
  ·exact h2 c h
theorem Digs.take{l:List UInt8}(h:Digs l)(n:Nat):Digs (l.take n):=fun c hc=>h c (List.mem_of_mem_take hc)
theorem Digs.drop{l:List UInt8}(h:Digs l)(n:Nat):Digs (l.drop n):=fun c hc=>h c (List.mem_of_mem_drop hc)
theorem Digs.zeros(n:Nat):Digs (List.replicate n 48):=fun c hc=>by rw[(List.mem_replicate.1 hc).2];decide
theorem Digs.nines(n:Nat):Digs (List.replicate n 57):=fun c hc=>by rw[(List.mem_replicate.1 hc).2];decide
def val(l:List UInt8):Nat:=l.foldl (fun a c=>10*a+(c.toNat-48)) 0
theorem foldl_val:∀(l:List UInt8)(a:Nat),l.foldl (fun a c=>10*a+(c.toNat-48)) a=a*10^l.length+val l
 |[],a=>by simp[val]
 |c::l,a=>by
  have h1:=foldl_val l (10*a+(c.toNat-48));have h2:=foldl_val l (10*0+(c.toNat-48));have h3:val (c::l)=l.foldl (fun a c=>10*a+(c.toNat-48)) (10*0+(c.toNat-48)):=rfl;rw[List.foldl_cons,h1,h3,h2,List.length_cons,Nat.pow_succ,Nat.add_mul,Nat.add_mul];have e:10*a*10^l.length=a*(10^l.length*10):=by rw[Nat.mul_comm 10 a,Nat.mul_assoc,Nat.mul_comm 10]
  omega
theorem val_nil:val []=0:=rfl
theorem val_cons(c:UInt8)(l:List UInt8):val (c::l)=(c.toNat-48)*10^l.length+val l:=by have:=foldl_val l (10*0+(c.toNat-48));have h3:val (c::l)=l.foldl (fun a c=>10*a+(c.toNat-48)) (10*0+(c.toNat-48)):=rfl;rw[h3,this,Nat.mul_zero,Nat.zero_add]
theorem val_append(a b:List UInt8):val (a++b)=val a*10^b.length+val b:=by
 have:val (a++b)=b.foldl (fun a c=>10*a+(c.toNat-48)) (val a):=by unfold val;rw[List.foldl_append]
 rw[this,foldl_val]
theorem val_snoc(l:List UInt8)(c:UInt8):val (l++[c])=10*val l+(c.toNat-48):=by rw[val_append,val_cons,val_nil];simp;omega
theorem pow_pos(n:Nat):0<10^n:=Nat.pow_pos (by decide)
theorem val_lt:∀{l:List UInt8},Digs l→val l<10^l.length
 |[],_=>by simp[val]
 |c::l,h=>by rw[Digs.cons]at h;have ih:=val_lt h.2;rw[val_cons,List.length_cons,Nat.pow_succ];have:(c.toNat-48)*10^l.length≤9*10^l.length:=Nat.mul_le_mul_right _ (by omega);omega
theorem val_zeros:∀n,val (List.replicate n 48)=0
 |0=>rfl
 |n+1=>by rw[List.replicate_succ,val_cons,val_zeros n];simp
theorem val_zeros_append(n:Nat)(l:List UInt8):val (List.replicate n 48++l)=val l:=by rw[val_append,val_zeros];simp
theorem val_append_zeros(l:List UInt8)(n:Nat):val (l++List.replicate n 48)=val l*10^n:=by rw[val_append,val_zeros,List.length_replicate];simp
theorem val_zero{l:List UInt8}(h:Digs l)(h0:val l=0):∀c∈l,c=48:=by
 induction l with
 |nil=>simp
 |cons c l ih=>
  rw[Digs.cons]at h;rw[val_cons]at h0;have hp:=pow_pos l.length;have h1:(c.toNat-48)*10^l.length=0:=by omega
  have h2:c.toNat-48=0:=by
   rcases Nat.mul_eq_zero.1 h1 with h|h
   ·exact h
   ·omega
  intro x hx;rcases List.mem_cons.1 hx with rfl|hx
  ·apply UInt8.toNat_inj.1;show x.toNat=48;omega
  ·exact ih h.2 (by omega) x hx
theorem zero_val{l:List UInt8}(h:∀c∈l,c=48):val l=0:=by rw[List.eq_replicate_of_mem h,val_zeros]
theorem split_eq{a b x y P:Nat}(hx:x<P)(hy:y<P)(h:a*P+x=b*P+y):a=b∧x=y:=by
 have h1:a=b:=by
  rcases Nat.lt_trichotomy a b with h'|h'|h'
  ·have:=Nat.mul_le_mul_right P (show a+1≤b from h');rw[Nat.succ_mul]at this;omega
  ·exact h'
  ·have:=Nat.mul_le_mul_right P (show b+1≤a from h');rw[Nat.succ_mul]at this;omega
 subst h1;exact⟨rfl,by omega⟩
theorem val_inj:∀{a b:List UInt8},Digs a→Digs b→a.length=b.length→val a=val b→a=b
 |[],[],_,_,_,_=>rfl
 |[],_::_,_,_,h,_=>by simp at h
 |_::_,[],_,_,h,_=>by simp at h
 |x::a,y::b,ha,hb,hl,h=>by
  rw[Digs.cons]at ha hb;simp only[List.length_cons,Nat.add_right_cancel_iff]at hl;rw[val_cons,val_cons,hl]at h;have h1:=val_lt ha.2;rw[hl]at h1;obtain⟨e1,e2⟩:=split_eq h1 (val_lt hb.2) h;rw[val_inj ha.2 hb.2 hl e2];have:x.toNat=y.toNat:=by omega
  rw[UInt8.toNat_inj.1 this]
theorem val_take_drop{l:List UInt8}(h:Digs l){m:Nat}(hm:m≤l.length):val (l.take (l.length-m))=val l/10^m∧val (l.drop (l.length-m))=val l%10^m:=by
 have e:val l=val (l.take (l.length-m))*10^m+val (l.drop (l.length-m)):=by have:=val_append (l.take (l.length-m)) (l.drop (l.length-m));rw[List.take_append_drop,List.length_drop]at this;rw[this];congr 3;omega
 have hlt:val (l.drop (l.length-m))<10^m:=by have:=val_lt (h.drop (l.length-m));rw[List.length_drop]at this;rwa [show l.length-(l.length-m)=m by omega]at this
 have hp:=pow_pos m;constructor
 ·rw[e,Nat.mul_comm,Nat.mul_add_div hp,Nat.div_eq_of_lt hlt,Nat.add_zero]
 ·rw[e,Nat.mul_comm,Nat.mul_add_mod,Nat.mod_eq_of_lt hlt]
def fmt:Nat→Nat→List UInt8
 |0,_=>[]
 |n+1,v=>fmt n (v/10)++[UInt8.ofNat (48+v%10)]
theorem fmt_length:∀n v,(fmt n v).length=n
 |0,_=>rfl
 |n+1,v=>by rw[fmt,List.length_append,fmt_length n];rfl
theorem dig_ofNat{d:Nat}(h:d<10):(UInt8.ofNat (48+d)).toNat=48+d:=by rw[UInt8.toNat_ofNat'];omega
theorem fmt_digs:∀n v,Digs (fmt n v)
 |0,_=>Digs.nil
 |n+1,v=>by rw[fmt,Digs.append,Digs.cons];refine⟨fmt_digs n _,?_,Digs.nil⟩;rw[dig_ofNat (Nat.mod_lt _ (by decide))];omega
theorem val_fmt:∀n v,v<10^n→val (fmt n v)=v
 |0,v,h=>by
  have:v=0:=by simpa using h
  rw[this];rfl
 |n+1,v,h=>by rw[fmt,val_snoc,val_fmt n (v/10) (by rw[Nat.pow_succ]at h;omega),dig_ofNat (Nat.mod_lt _ (by decide))];omega
theorem fmt_val{l:List UInt8}(h:Digs l):fmt l.length (val l)=l:=
 val_inj (fmt_digs _ _) h (fmt_length _ _) (val_fmt _ _ (val_lt h))
theorem fmt_of{l:List UInt8}{n v:Nat}(h:Digs l)(hl:l.length=n)(hv:val l=v):l=fmt n v:=by subst hl hv;exact (fmt_val h).symm
def tz(l:List UInt8):List UInt8:=l.dropWhile (· ==48)
theorem tz_cons(c:UInt8)(l:List UInt8):tz (c::l)=if c=48 then tz l else c::l:=by unfold tz;rw[List.dropWhile_cons];by_cases h:c=48<;>simp[h]
theorem tz_trim(l:List UInt8):Lib.trimLeftS l [48]=tz l:=by unfold Lib.trimLeftS tz;congr 1;funext c;by_cases h:c=48<;>simp[h]
theorem val_tz:∀l,val (tz l)=val l
 |[]=>rfl
 |c::l=>by
  rw[tz_cons];split
  ·rename_i h;subst h;rw[val_tz l,val_cons];simp
  ·rfl
theorem Digs.tz{l:List UInt8}(h:Digs l):Digs (tz l):=fun c hc=>h c ((List.dropWhile_sublist _).subset hc)
theorem tz_len(l:List UInt8):(tz l).length≤l.length:=(List.dropWhile_sublist _).length_le
theorem tz_head{l:List UInt8}{c:UInt8}{r:List UInt8}(h:tz l=c::r):c≠48:=by
 induction l with
 |nil=>cases h
 |cons x l ih=>
  rw[tz_cons]at h;split at h
  ·exact ih h
  ·rename_i hx;cases h;exact hx
theorem tz_nil{l:List UInt8}(h:Digs l):tz l=[]↔val l=0:=by
 constructor
 ·intro e;rw[←val_tz,e];rfl
 ·intro e;rcases hl:tz l with _|⟨c,r⟩
  ·rfl
  ·have:=val_zero h.tz (by rw[val_tz];exact e) c (by rw[hl];simp);exact absurd this (tz_head hl)
theorem tz_bounds{l:List UInt8}(h:Digs l)(h0:val l≠0):10^((tz l).length-1)≤val l∧val l<10^(tz l).length∧1≤(tz l).length:=by
 have hd:=h.tz;have e:=val_tz l;rcases hl:tz l with _|⟨c,r⟩
 ·exact absurd ((tz_nil h).1 hl) h0
 ·have hc:=tz_head hl;rw[hl]at hd e;refine⟨?_,by rw[←e];exact val_lt hd,by simp⟩;rw[←e,val_cons,List.length_cons,Nat.add_sub_cancel];rw[Digs.cons]at hd;have h1:1≤c.toNat-48:=by
   have:c.toNat≠48:=fun h=>hc (UInt8.toNat_inj.1 h)
   omega
  have:=Nat.mul_le_mul_right (10^r.length) h1;omega
theorem tz_eq{a b:List UInt8}(ha:Digs a)(hb:Digs b)(h:val a=val b):tz a=tz b:=by
 by_cases h0:val a=0
 ·rw[(tz_nil ha).2 h0,(tz_nil hb).2 (h▸h0)]
 ·obtain⟨a1,a2,a3⟩:=tz_bounds ha h0;obtain⟨b1,b2,b3⟩:=tz_bounds hb (h▸h0);refine val_inj ha.tz hb.tz ?_ (by rw[val_tz,val_tz,h]);rcases Nat.lt_trichotomy (tz a).length (tz b).length with hl|hl|hl
  ·have:=Nat.pow_le_pow_right (show 0<10 by decide) (show(tz a).length≤(tz b).length-1 by omega);omega
  ·exact hl
  ·have:=Nat.pow_le_pow_right (show 0<10 by decide) (show(tz b).length≤(tz a).length-1 by omega);omega
def dstr(v:Nat):List UInt8:=tz (fmt v v)
theorem lt_pow10(v:Nat):v<10^v:=Nat.lt_pow_self (by decide)
theorem dstr_digs(v:Nat):Digs (dstr v):=(fmt_digs v v).tz
theorem val_dstr(v:Nat):val (dstr v)=v:=by unfold dstr;rw[val_tz,val_fmt v v (lt_pow10 v)]
theorem dstr_val{l:List UInt8}(h:Digs l):dstr (val l)=tz l:=
 tz_eq (fmt_digs _ _) h (val_fmt _ _ (lt_pow10 _))
theorem tz_dstr(v:Nat):tz (dstr v)=dstr v:=by have:=dstr_val (dstr_digs v);rw[val_dstr]at this;exact this.symm
theorem dstr_nil{v:Nat}:dstr v=[]↔v=0:=by rw[←tz_dstr,tz_nil (dstr_digs v),val_dstr]
theorem dstr_of{l:List UInt8}(h:Digs l)(h0:∀c r,l=c::r→c≠48):dstr (val l)=l:=by
 rw[dstr_val h];cases l with
 |nil=>rfl
 |cons c r=>rw[tz_cons,if_neg (h0 c r rfl)]
theorem dstr_bounds{v:Nat}(h:v≠0):10^((dstr v).length-1)≤v∧v<10^(dstr v).length∧1≤(dstr v).length:=by have:=tz_bounds (dstr_digs v) (by rw[val_dstr];exact h);rwa [val_dstr,tz_dstr]at this
theorem dstr_len{v n:Nat}(h:v<10^n):(dstr v).length≤n:=by
 by_cases h0:v=0
 ·subst h0;rw[dstr_nil.2 rfl];simp
 ·obtain⟨h1,_,h3⟩:=dstr_bounds h0;rcases Nat.lt_or_ge n (dstr v).length with hl|hl
  ·have:=Nat.pow_le_pow_right (show 0<10 by decide) (show n≤(dstr v).length-1 by omega);omega
  ·exact hl
end Go.Dg
end
section
namespace Go.Dg
def strip:Nat→Nat→Nat×Nat
 |0,v=>(v,0)
 |s+1,v=>if v%10=0 then strip s (v/10)else(v,s+1)
theorem strip_spec:∀(s v:Nat),v=(strip s v).1*10^(s-(strip s v).2)∧(strip s v).2≤s∧((strip s v).2=0∨(strip s v).1%10≠0)
 |0,v=>⟨by simp[strip],Nat.le_refl _,.inl rfl⟩
 |s+1,v=>by
  by_cases h:v%10=0
  ·have e:strip (s+1) v=strip s (v/10):=by rw[strip,if_pos h]
   obtain⟨h1,h2,h3⟩:=strip_spec s (v/10);rw[e];refine⟨?_,by omega,h3⟩;rw[show s+1-(strip s (v/10)).2=(s-(strip s (v/10)).2)+1 by omega,Nat.pow_succ,←Nat.mul_assoc,←h1];omega
  ·have e:strip (s+1) v=(v,s+1):=by rw[strip,if_neg h]
   rw[e];exact⟨by simp,Nat.le_refl _,.inr h⟩
theorem strip_ne{s v:Nat}(h:v≠0):(strip s v).1≠0:=fun e=>by have:=(strip_spec s v).1;rw[e]at this;simp at this;exact h this
def canon(neg:Bool)(v s:Nat):Bool×List UInt8×Nat:=if v=0 then(false,[48],0)else(neg,dstr (strip s v).1,(strip s v).2)
theorem canon_zero(neg:Bool)(s:Nat):canon neg 0 s=(false,[48],0):=by unfold canon;rw[if_pos rfl]
theorem canon_val(neg:Bool)(v s:Nat):val (canon neg v s).2.1*10^s=v*10^(canon neg v s).2.2:=by
 unfold canon;split
 ·rename_i h;subst h;simp[val]
 ·obtain⟨h1,h2,_⟩:=strip_spec s v;dsimp only;rw[val_dstr];have:10^s=10^(s-(strip s v).2)*10^(strip s v).2:=by rw[←Nat.pow_add];congr 1;omega
  rw[this,←Nat.mul_assoc,←h1]
theorem canon_scale(neg:Bool)(v s:Nat):(canon neg v s).2.2≤s:=by
 unfold canon;split
 ·exact Nat.zero_le _
 ·exact (strip_spec s v).2.1
theorem canon_digs(neg:Bool)(v s:Nat):Digs (canon neg v s).2.1:=by
 unfold canon;split
 ·decide
 ·exact dstr_digs _
theorem canon_ne(neg:Bool)(v s:Nat):(canon neg v s).2.1≠[]:=by
 unfold canon;split
 ·simp
 ·rename_i h;rw[Ne,dstr_nil];exact strip_ne h
theorem canon_val0(neg:Bool)(v s:Nat):val (canon neg v s).2.1=0↔v=0:=by
 have h:=canon_val neg v s;have p1:=pow_pos s;have p2:=pow_pos (canon neg v s).2.2;constructor
 ·intro e;rw[e,Nat.zero_mul]at h;rcases Nat.mul_eq_zero.1 h.symm with h|h
  ·exact h
  ·omega
 ·intro e;subst e;rw[canon_zero];rfl
theorem canon_sign(neg:Bool)(v s:Nat):(canon neg v s).1=(neg&&decide (v≠0)):=by
 unfold canon;split
 ·rename_i h;simp[h]
 ·rename_i h;simp[h]
theorem strip_fix{s v:Nat}(h:s=0∨v%10≠0):strip s v=(v,s):=by
 cases s with
 |zero=>rfl
 |succ s=>rw[strip,if_neg (by rcases h with h|h;cases h;exact h)]
theorem canon_canon(neg:Bool)(v s:Nat):canon (canon neg v s).1 (val (canon neg v s).2.1) (canon neg v s).2.2=canon neg v s:=by
 by_cases h0:v=0
 ·subst h0;rw[canon_zero];rfl
 ·have e:canon neg v s=(neg,dstr (strip s v).1,(strip s v).2):=by unfold canon;rw[if_neg h0]
  obtain⟨_,_,h3⟩:=strip_spec s v;rw[e];dsimp only;rw[val_dstr];unfold canon;rw[if_neg (strip_ne h0),strip_fix h3]
end Go.Dg
end
section
namespace Go.Dg
open Go
theorem wrap_u8{n:Int}(h0:0≤n)(h1:n<256):IntKind.wrap .u8 n=n:=by have e:(2^IntKind.bits .u8:Int)=256:=rfl;unfold IntKind.wrap;rw[e];simp only[show IntKind.signed .u8=false from rfl,Bool.false_and,Bool.false_eq_true,if_false];omega
theorem wrap_u64(n:Int):IntKind.wrap .u64 n=n%18446744073709551616:=by have e:(2^IntKind.bits .u64:Int)=18446744073709551616:=rfl;unfold IntKind.wrap;rw[e];simp only[show IntKind.signed .u64=false from rfl,Bool.false_and,Bool.false_eq_true,if_false]
theorem wrap_i64(n:Int):IntKind.wrap .i64 n=if 9223372036854775808≤n%18446744073709551616 then n%18446744073709551616-18446744073709551616 else n%18446744073709551616:=by have e:(2^IntKind.bits .i64:Int)=18446744073709551616:=rfl;have e2:(2^(IntKind.bits .i64-1):Int)=9223372036854775808:=rfl;unfold IntKind.wrap;rw[e,e2];simp only[show IntKind.signed .i64=true from rfl,Bool.true_and,decide_eq_true_eq,ge_iff_le]
end Go.Dg
end
section
set_option maxRecDepth 100000
namespace Go.Proofs.C06
open Go Go.RowKit Go.Vc Go.Am Go.Dg
theorem catOk_of{a b:List UInt8}(h:a.length+b.length≤1000000):catOk a b=true:=by rw[catOk_iff];omega
theorem dropWhile_head{p:UInt8→Bool}:∀{l:List UInt8}{c:UInt8}{r:List UInt8},l.dropWhile p=c::r→p c=false
 |[],_,_,h=>by cases h
 |x::l,c,r,h=>by
  rw[List.dropWhile_cons]at h;split at h
  ·exact dropWhile_head h
  ·rename_i hx;cases h;simpa using hx
theorem dropWhile_nil{p:UInt8→Bool}:∀{l:List UInt8},l.dropWhile p=[]↔∀c∈l,p c=true
 |[]=>by simp
 |x::l=>by
  rw[List.dropWhile_cons];split
  ·rename_i h;rw[dropWhile_nil];simp[h]
  ·rename_i h;simp[h]
theorem trimS_nil(s cs:List UInt8):Lib.trimS s cs=[]↔∀c∈s,cs.contains c=true:=by
 unfold Lib.trimS Lib.trimLeftS Lib.trimRightS;rw[dropWhile_nil];constructor
 ·intro h;have h2:s.reverse.dropWhile (cs.contains ·)=[]:=by
   rcases hr:s.reverse.dropWhile (cs.contains ·)with _|⟨c,r⟩
   ·rfl
   ·have h1:=dropWhile_head hr;have:=h c (by rw[hr];simp);rw[this]at h1;cases h1
  rw[dropWhile_nil]at h2;exact fun c hc=>h2 c (by simpa using hc)
 ·intro h c hc;have hc:c∈s.reverse.dropWhile (cs.contains ·):=by simpa using hc
  have:=(List.dropWhile_sublist _).subset hc;exact h c (by simpa using this)
theorem digit_mem(c:UInt8):([48,49,50,51,52,53,54,55,56,57]:List UInt8).contains c=true↔48≤c.toNat∧c.toNat≤57:=by
 constructor
 ·intro h;simp only[List.contains_cons,List.contains_nil,Bool.or_false,Bool.or_eq_true,beq_iff_eq]at h;rcases h with rfl|rfl|rfl|rfl|rfl|rfl|rfl|rfl|rfl|rfl<;>decide
 ·rintro⟨h1,h2⟩;have:∀m:Fin 256,48≤m.val→m.val≤57→([48,49,50,51,52,53,54,55,56,57]:List UInt8).contains (UInt8.ofNat m.val)=true:=by decide
  have h:=this ⟨c.toNat,UInt8.toNat_lt c⟩ h1 h2;simpa using h
theorem lTrim_eq{s cs:List UInt8}(hs:s.length≤1000000)(hc:cs.length≤1000)(ha:ascii cs=true):lTrim s cs=some (Lib.trimS s cs):=by unfold lTrim;rw[decide_eq_true (show s.length≤9223372036854775807 by omega),decide_eq_true (show cs.length<4294967281 by omega),ha];rfl
theorem dNumber_is{N:Nat}{s:List UInt8}(hs:s.length≤1000000):dNumber N s=some (decide (s≠[]∧Digs s)):=by
 unfold dNumber;rw[cond_ndec];by_cases h:s=[]
 ·rw[if_pos h];simp[h]
 ·rw[if_neg h,lTrim_eq hs (by decide) (by decide),bnd_of];congr 1;rw[Bool.eq_iff_iff];simp only[decide_eq_true_eq];rw[trimS_nil];constructor
  ·intro k;exact⟨h,fun c hc=>(digit_mem c).1 (k c hc)⟩
  ·rintro⟨_,k⟩ c hc;exact (digit_mem c).2 (k c hc)
theorem lTrimLeft0{s:List UInt8}:lTrimLeft s [48]=some (tz s):=by unfold lTrimLeft;rw[tz_trim];rfl
theorem trim0{s:List UInt8}(hs:s.length≤1000000)(hd:Digs s):∃t,lTrim s [48]=some t∧(t=[]↔val s=0):=by
 refine⟨_,lTrim_eq hs (by decide) (by decide),?_⟩;rw[trimS_nil];constructor
 ·intro h;exact zero_val fun c hc=>by simpa using h c hc
 ·intro h c hc;rw[val_zero hd h c hc];decide
theorem lRepeat0{m:Nat}(hm:m≤100000):lRepeat [48] (m:Int)=some (List.replicate m 48):=by
 have e:Lib.repeatL [48] m=List.replicate m 48:=by
  induction m with
  |zero=>rfl
  |succ m ih=>rw[Lib.repeatL,ih (by omega),List.replicate_succ];rfl
 unfold lRepeat;simp only[Int.toNat_natCast,List.length_cons,List.length_nil];rw[decide_eq_true (show(0:Int)≤(m:Int)by omega),decide_eq_true (show(m:Int)≤9223372036854775807 by omega),decide_eq_true (by omega),e];rfl
theorem lHasSuffix0(l:List UInt8)(c:UInt8)(hl:l.length≤1000000):lHasSuffix (l++[c]) [48]=some (decide (c=48)):=by
 unfold lHasSuffix;rw[decide_eq_true (by simp;omega),chk_true];congr 1;unfold Lib.hasSuffix;rw[Bool.eq_iff_iff,decide_eq_true_eq,List.isSuffixOf_iff_suffix];constructor
 ·rintro⟨t,ht⟩;have:=congrArg List.getLast? ht;simp at this;exact this.symm
 ·rintro rfl;exact⟨l,rfl⟩
def decOf(c:Bool×List UInt8×Nat):Decimal:=Decimal.mk c.1 c.2.1 (c.2.2:Int)
def zeroD:Decimal:=Decimal.mk false [] 0
def nrm(neg:Bool)(l:List UInt8)(sc:Int):Decimal×Int:=if 62<(canon neg (val l*10^(-sc).toNat) sc.toNat).2.1.length∨62<(canon neg (val l*10^(-sc).toNat) sc.toNat).2.2 then(zeroD,14)else(decOf (canon neg (val l*10^(-sc).toNat) sc.toNat),0)
theorem dNormal_k1_is(N:Nat)(neg:Bool)(l:List UInt8)(s:Nat)(b:Decimal):dNormal_k1 N neg l (s:Int) b=some (if 62<l.length∨62<s then(zeroD,14)else(Decimal.mk neg l (s:Int),0)):=by
 unfold dNormal_k1 maxI;rw[cond_dec];by_cases h:62<l.length∨62<s
 ·rw[if_pos h,if_pos (by split<;>omega)];rfl
 ·rw[if_neg h,if_neg (by split<;>omega)]
theorem dstr_zeros{v:Nat}(h:v≠0)(k:Nat):dstr v++List.replicate k 48=dstr (v*10^k):=by
 have e:val (dstr v++List.replicate k 48)=v*10^k:=by rw[val_append_zeros,val_dstr]
 rw[←e,dstr_of (Digs.append.2 ⟨dstr_digs v,Digs.zeros k⟩)];intro c r hc;rcases hd:dstr v with _|⟨x,t⟩
 ·exact absurd (dstr_nil.1 hd) h
 ·rw[hd]at hc;cases hc;exact tz_head (l:=dstr v) (by rw[tz_dstr,hd])
theorem dNormal_k0_is(N:Nat)(neg:Bool){l:List UInt8}{s:Int}(b:Decimal)(h1: -2000≤s)(hl:l.length≤2000):
  dNormal_k0 N neg l s b=some (if 62<l.length+(-s).toNat∨62<s.toNat then(zeroD,14)else(Decimal.mk neg (l++List.replicate (-s).toNat 48) (s.toNat:Int),0)):=by
 unfold dNormal_k0;rw[cond_dec];by_cases h:s<0
 ·obtain⟨m,hm⟩:∃m:Nat,-s=m:=⟨(-s).toNat,by omega⟩
  have e1:s.toNat=0:=by omega
  rw[if_pos h,hm,in64 (by omega) (by omega),chk_true,lRepeat0 (by omega),bnd_of,catOk_of (by simp;omega),chk_true];have:=dNormal_k1_is N neg (l++List.replicate m 48) 0 b;rw[e1,Int.toNat_natCast];rw[List.length_append,List.length_replicate]at this;exact this
 ·obtain⟨m,hm⟩:∃m:Nat,s=m:=⟨s.toNat,by omega⟩
  rw[if_neg h];have e2:(-s).toNat=0:=by omega
  rw[e2,List.replicate_zero,List.append_nil,Nat.add_zero,hm,dNormal_k1_is,Int.toNat_natCast]
theorem dNormal_loop(N:Nat)(neg:Bool)(b:Decimal):∀(m n:Nat)(l:List UInt8)(s:Int),s.toNat=m→m<n→Digs l→(∃c r,l=c::r∧c≠48)→l.length≤2000→s≤2000→
  dNormal_l2 N n neg l s b=dNormal_k0 N neg (dstr (strip s.toNat (val l)).1) (if s<0 then s else((strip s.toNat (val l)).2:Int)) b
 |m,0,l,s,hm,hn,_,_,_,_=>by omega
 |m,n+1,l,s,hm,hn,hd,⟨c,r,hcr,hc⟩,hl,hs=>by
  have hself:dstr (val l)=l:=dstr_of hd fun c' r' h=>by rw[hcr]at h;cases h;exact hc
  show dNormal_l2_b N (dNormal_l2 N n) neg l s b=_;unfold dNormal_l2_b;rw[cond_dec];by_cases h:0<s
  ·obtain⟨q,rfl⟩:∃q:Nat,s=(q+1:Nat):=⟨(s-1).toNat,by omega⟩
   rcases List.eq_nil_or_concat l with h0|⟨t,x,h0⟩
   ·rw[h0]at hcr;cases hcr
   ·rw[List.concat_eq_append]at h0;subst h0;rw[List.length_append]at hl;simp only[List.length_cons,List.length_nil]at hl;rw[Digs.append,Digs.cons]at hd;have hv:=val_snoc t x;have hx:=hd.2.1;rw[if_pos h,lHasSuffix0 t x (by omega),bnd_of,cond_dec,Int.toNat_natCast];by_cases hx0:x=48
    ·have ht:∃c r,t=c::r∧c≠48:=by
      cases t with
      |nil=>cases hcr;exact absurd hx0 hc
      |cons c' r'=>cases hcr;exact⟨_,_,rfl,hc⟩
     have e1:(((t++[x]).length:Int)-1)=(t.length:Int):=by simp
     have e2:(((q+1:Nat):Int)-1)=(q:Int):=by omega
     have hin:inSub 0 (t.length:Int) (t++[x]).length=true:=by unfold inSub;simp;omega
     have e3:takeI (t++[x]) (t.length:Int)=t:=by unfold takeI;simp
     have e4:strip (q+1) (val (t++[x]))=strip q (val t):=by subst hx0;rw[hv,strip,if_pos (by simp)];congr 1;simp
     rw[if_pos hx0,e1,e2,in64 (by omega) (by omega),chk_true,hin,chk_true,in64 (by omega) (by omega),chk_true,e3,
      dNormal_loop N neg b q n t (q:Int) (by simp) (by simp at hm;omega) hd.1 ht (by omega) (by omega),e4,Int.toNat_natCast,if_neg (by omega),if_neg (by omega)]
    ·have hx1:x.toNat≠48:=fun e=>hx0 (UInt8.toNat_inj.1 e)
     have e4:strip (q+1) (val (t++[x]))=(val (t++[x]),q+1):=by rw[strip,if_neg (by rw[hv];omega)]
     rw[if_neg hx0,e4,hself,if_neg (by omega)]
  ·rw[if_neg h];have e1:s.toNat=0:=by omega
   rw[e1];simp only[strip,hself];by_cases h2:s<0
   ·rw[if_pos h2]
   ·rw[if_neg h2,show s=((0:Nat):Int)by omega]
theorem dNormal_is{N:Nat}(hN:3000<N)(neg:Bool){l:List UInt8}(hd:Digs l)(hl:l.length≤2000){s:Int}(h1: -2000≤s)(h2:s≤2000):dNormal N neg l s=some (nrm neg l s):=by
 unfold dNormal;rw[lTrimLeft0,bnd_of,cond_dec];by_cases h0:val l=0
 ·rw[if_pos ((tz_nil hd).2 h0)];unfold nrm;rw[h0,Nat.zero_mul,canon_zero];rfl
 ·have hne:tz l≠[]:=fun e=>h0 ((tz_nil hd).1 e)
  rw[if_neg hne];obtain⟨c,r,hcr⟩:∃c r,tz l=c::r:=by
   rcases htz:tz l with _|⟨c,r⟩
   ·exact absurd htz hne
   ·exact⟨c,r,rfl⟩
  have hlen:=tz_len l;rw[dNormal_loop N neg _ s.toNat N (tz l) s rfl (by omega) hd.tz ⟨c,r,hcr,tz_head hcr⟩ (by omega) h2,val_tz];have hsl:(dstr (strip s.toNat (val l)).1).length≤2000:=by
   have hlt:=val_lt hd;have hle:(strip s.toNat (val l)).1≤val l:=by have:=(strip_spec s.toNat (val l)).1;have hp:=pow_pos (s.toNat-(strip s.toNat (val l)).2);rw[this];exact Nat.le_trans (Nat.le_of_eq (Nat.mul_one _).symm) (by rw[←this];exact Nat.le_trans (Nat.mul_le_mul_left _ hp) (Nat.le_of_eq this.symm))
   have:=dstr_len (v:=(strip s.toNat (val l)).1) (n:=l.length) (by omega);omega
  by_cases hs:s<0
  ·rw[if_pos hs,dNormal_k0_is N neg _ h1 hsl];have e1:s.toNat=0:=by omega
   unfold nrm;rw[e1];have e2:strip 0 (val l)=(val l,0):=rfl;have hv:val l*10^(-s).toNat≠0:=fun e=>by
    rcases Nat.mul_eq_zero.1 e with e|e
    ·exact h0 e
    ·have:=pow_pos (-s).toNat;omega
   have e3:canon neg (val l*10^(-s).toNat) 0=(neg,dstr (val l)++List.replicate (-s).toNat 48,0):=by unfold canon;rw[if_neg hv,dstr_zeros h0];rfl
   rw[e2,e3];dsimp only;rw[List.length_append,List.length_replicate];rfl
  ·rw[if_neg hs,dNormal_k0_is N neg _ (by omega) hsl];unfold nrm;have e1:(-s).toNat=0:=by omega
   have e3:canon neg (val l*10^(-s).toNat) s.toNat=(neg,dstr (strip s.toNat (val l)).1,(strip s.toNat (val l)).2):=by rw[e1,Nat.pow_zero,Nat.mul_one];unfold canon;rw[if_neg h0]
   have e4:(-(((strip s.toNat (val l)).2:Nat):Int)).toNat=0:=by omega
   rw[e3,e4,Int.toNat_natCast,Nat.add_zero,List.replicate_zero,List.append_nil];rfl
def VD(d:Decimal):Prop:=d.Digits≠[]∧Digs d.Digits∧d.Digits.length≤62∧0≤d.Scale∧d.Scale≤62∧nrm d.Neg d.Digits d.Scale=(d,0)
instance(d:Decimal):Decidable (VD d):=by unfold VD;infer_instance
theorem dNew_is{N:Nat}(hN:3000<N)(neg:Bool){l:List UInt8}(hd:Digs l)(h0:l≠[])(hl:l.length≤1000){s:Int}(h1: -1000≤s)(h2:s≤1000):dNew N neg l s=some (nrm neg l s):=by unfold dNew;rw[dNumber_is (by omega),bnd_of,cond_ndec,if_pos ⟨h0,hd⟩,cond_dec,if_neg (by omega),cond_dec,if_neg (by omega),cond_dec,if_neg (by omega),dNormal_is hN neg hd (by omega) (by omega) (by omega),bnd_of]
theorem dCheck_is{N:Nat}(hN:3000<N){d:Decimal}(hl:d.Digits.length≤1000):dCheck N d=some (if VD d then 0 else 1):=by
 unfold dCheck;rw[dNumber_is (by omega),bnd_of,cond_ndec];by_cases h1:d.Digits≠[]∧Digs d.Digits
 ·rw[if_pos h1,cond_dec];by_cases h2:62<(d.Digits.length:Int)
  ·rw[if_pos h2,if_neg (fun h=>by have:=h.2.2.1;omega)]
  ·rw[if_neg h2,cond_dec];by_cases h3:d.Scale<0
   ·rw[if_pos h3,if_neg (fun h=>by have:=h.2.2.2.1;omega)]
   ·rw[if_neg h3,cond_dec];by_cases h4:62<d.Scale
    ·rw[if_pos h4,if_neg (fun h=>by have:=h.2.2.2.2.1;omega)]
    ·rw[if_neg h4,dNormal_is hN _ h1.2 (by omega) (by omega) (by omega),bnd_of,cond_ndec];by_cases h5:(nrm d.Neg d.Digits d.Scale).2=0
     ·rw[if_pos h5];have e:(decide ((nrm d.Neg d.Digits d.Scale).1.Neg=d.Neg)&&(decide ((nrm d.Neg d.Digits d.Scale).1.Digits=d.Digits)&&(decide ((nrm d.Neg d.Digits d.Scale).1.Scale=d.Scale)&&true)))=decide ((nrm d.Neg d.Digits d.Scale).1=d):=by rw[Bool.eq_iff_iff];obtain⟨a,b,c⟩:=d;generalize (nrm a b c).1=y;obtain⟨p,q,r⟩:=y;simp
      rw[e,cond_ndec];by_cases h6:(nrm d.Neg d.Digits d.Scale).1=d
      ·rw[if_pos h6,if_pos ⟨h1.1,h1.2,by omega,by omega,by omega,Prod.ext h6 h5⟩]
      ·rw[if_neg h6,if_neg (fun h=>h6 (by rw[h.2.2.2.2.2]))]
     ·rw[if_neg h5,if_neg (fun h=>h5 (by rw[h.2.2.2.2.2]))]
 ·rw[if_neg h1,if_neg (fun h=>h1 ⟨h.1,h.2.1⟩)]
theorem VD.form{d:Decimal}(h:VD d):decOf (canon d.Neg (val d.Digits) d.Scale.toNat)=d:=by
 obtain⟨_,_,_,h4,_,h6⟩:=h;unfold nrm at h6;have e:(-d.Scale).toNat=0:=by omega
 rw[e,Nat.pow_zero,Nat.mul_one]at h6;split at h6
 ·cases h6
 ·exact congrArg Prod.fst h6
theorem VD.of{neg:Bool}{v s:Nat}(h1:(canon neg v s).2.1.length≤62)(h2:(canon neg v s).2.2≤62):VD (decOf (canon neg v s)):=by
 refine⟨canon_ne _ _ _,canon_digs _ _ _,h1,?_,?_,?_⟩
 ·show(0:Int)≤((canon neg v s).2.2:Int);omega
 ·show((canon neg v s).2.2:Int)≤62;omega
 ·unfold nrm;have e1:(-(decOf (canon neg v s)).Scale).toNat=0:=by show(-((canon neg v s).2.2:Int)).toNat=0;omega
  have e2:(decOf (canon neg v s)).Scale.toNat=(canon neg v s).2.2:=by show(((canon neg v s).2.2:Nat):Int).toNat=_;omega
  have e3:canon (decOf (canon neg v s)).Neg (val (decOf (canon neg v s)).Digits) (canon neg v s).2.2=canon neg v s:=canon_canon neg v s;rw[e1,e2,Nat.pow_zero,Nat.mul_one,e3,if_neg (by omega)]
theorem nrm_ok{neg:Bool}{l:List UInt8}{s:Int}(h1:(canon neg (val l*10^(-s).toNat) s.toNat).2.1.length≤62)(h2:(canon neg (val l*10^(-s).toNat) s.toNat).2.2≤62):
  nrm neg l s=(decOf (canon neg (val l*10^(-s).toNat) s.toNat),0):=by
 unfold nrm;rw[if_neg (by omega)]
theorem canon_len{neg:Bool}{v s n:Nat}(hn:1≤n)(h:v<10^n):(canon neg v s).2.1.length≤n:=by
 unfold canon;split
 ·simpa using hn
 ·dsimp only;refine dstr_len ?_;have:=(strip_spec s v).1;have hp:=pow_pos (s-(strip s v).2);have hle:(strip s v).1≤v:=by rw[this];exact Nat.le_trans (Nat.le_of_eq (Nat.mul_one _).symm) (by rw[←this];exact Nat.le_trans (Nat.mul_le_mul_left _ hp) (Nat.le_of_eq this.symm))
  omega
end Go.Proofs.C06
end
section
set_option maxRecDepth 100000
namespace Go.Proofs.C06
open Go Go.RowKit Go.Vc Go.Am Go.Dg
theorem mod_min{v len k:Nat}(h:v<10^len):v%10^(min len k)=v%10^k:=by
 rcases Nat.le_total k len with hk|hk
 ·rw[Nat.min_eq_right hk]
 ·rw[Nat.min_eq_left hk,Nat.mod_eq_of_lt h,Nat.mod_eq_of_lt (Nat.lt_of_lt_of_le h (Nat.pow_le_pow_right (by decide) hk))]
theorem takeI_sub(l:List UInt8){m:Nat}(h:m≤l.length):takeI l ((l.length:Int)-(m:Int))=l.take (l.length-m):=by unfold takeI;congr 1;omega
theorem dropI_sub(l:List UInt8){m:Nat}(h:m≤l.length):dropI l ((l.length:Int)-(m:Int))=l.drop (l.length-m):=by unfold dropI;congr 1;omega
theorem dCut_k0_is{N:Nat}(hN:3000<N){d b:Decimal}(hd:VD d){m:Nat}(hm:m≤d.Digits.length):
  dCut_k0 N (m:Int) d b=some ((nrm d.Neg (d.Digits.take (d.Digits.length-m)++List.replicate m 48) d.Scale).1,decide (val d.Digits%10^m=0),(nrm d.Neg (d.Digits.take (d.Digits.length-m)++List.replicate m 48) d.Scale).2):=by
 obtain⟨h1,h2,h3,h4,h5,_⟩:=hd;unfold dCut_k0;have hin1:inSub ((d.Digits.length:Int)-(m:Int)) (d.Digits.length:Int) d.Digits.length=true:=by unfold inSub;simp<;>omega
 have hin2:inSub 0 ((d.Digits.length:Int)-(m:Int)) d.Digits.length=true:=by unfold inSub;simp<;>omega
 obtain⟨t,e1,e2⟩:=trim0 (s:=d.Digits.drop (d.Digits.length-m)) (by rw[List.length_drop];omega) (h2.drop _);rw[in64 (by omega) (by omega),chk_true,hin1,chk_true,chk_true,hin2,chk_true,lRepeat0 (by omega),bnd_of,takeI_sub _ hm,dropI_sub _ hm,
  catOk_of (by rw[List.length_take,List.length_replicate];omega),chk_true,
  dNormal_is hN _ (Digs.append.2 ⟨h2.take _,Digs.zeros _⟩) (by rw[List.length_append,List.length_take,List.length_replicate];omega) (by omega) (by omega),bnd_of,e1,bnd_of]
 have e3:(t=[])↔val d.Digits%10^m=0:=by rw[e2,(val_take_drop h2 hm).2]
 rw[decide_eq_decide.2 e3]
theorem dCut_is{N:Nat}(hN:3000<N){d:Decimal}(hd:VD d){s:Int}(hs: -1000≤s)(hs2:s≤1000):
  ∃x e,dCut N d s=some (x,decide (val d.Digits%10^(d.Scale-s).toNat=0),e)∧
   (d.Scale≤s→x=d∧e=0)∧(s<d.Scale→∃m,m=min d.Digits.length (d.Scale-s).toNat∧(x,e)=nrm d.Neg (d.Digits.take (d.Digits.length-m)++List.replicate m 48) d.Scale):=by
 have hd':=hd;obtain⟨h1,h2,h3,h4,h5,_⟩:=hd';unfold dCut;rw[dCheck_is hN (by omega),if_pos hd,bnd_of,cond_ndec,if_pos rfl,cond_dec];by_cases h:d.Scale≤s
 ·rw[if_pos h];refine⟨d,0,?_,fun _=>⟨rfl,rfl⟩,fun h'=>by omega⟩;have e:(d.Scale-s).toNat=0:=by omega
  rw[e,Nat.pow_zero,Nat.mod_one,decide_eq_true rfl]
 ·rw[if_neg h,cond_dec,if_pos (by omega),in64 (by omega) (by omega),chk_true];have em:minI (d.Digits.length:Int) (d.Scale-s)=((min d.Digits.length (d.Scale-s).toNat:Nat):Int):=by unfold minI;split<;>omega
  rw[em,dCut_k0_is hN hd (by omega),mod_min (val_lt h2)];exact⟨_,_,rfl,fun h'=>absurd h' h,fun _=>⟨_,rfl,rfl⟩⟩
def quo(v S:Nat)(s:Int):Nat:=v*10^(s-(S:Int)).toNat/10^((S:Int)-s).toNat
def exact(v S:Nat)(s:Int):Prop:=v%10^((S:Int)-s).toNat=0
instance(v S:Nat)(s:Int):Decidable (exact v S s):=by unfold exact;infer_instance
theorem places_k0_is{N:Nat}{n:Nat}{s:List UInt8}(hn:n≤1000)(hs:s.length≤1000):places_k0 N (n:Int) s=some (List.replicate (n-s.length) 48++s,true):=by
 unfold places_k0;have e:maxI ((n:Int)-(s.length:Int)) 0=((n-s.length:Nat):Int):=by unfold maxI;split<;>omega
 rw[in64 (by omega) (by omega),chk_true,e,lRepeat0 (by omega),bnd_of,catOk_of (by rw[List.length_replicate];omega),chk_true]
theorem places_is{N:Nat}(hN:3000<N){d:Decimal}(hd:VD d){n:Nat}{s:Int}(hn:n≤1000)(hs: -62≤s)(hs2:s≤62):
  (exact (val d.Digits) d.Scale.toNat s→∃t,places N d (n:Int) s=some (t,true)∧Digs t∧val t=quo (val d.Digits) d.Scale.toNat s∧n≤t.length∧t.length≤2000)∧
  (¬exact (val d.Digits) d.Scale.toNat s→places N d (n:Int) s=some ([],false)):=by
 obtain⟨x,e,hc,_⟩:=dCut_is hN hd (s:=s) (by omega) (by omega);obtain⟨h1,h2,h3,h4,h5,_⟩:=hd;have hS:((d.Scale.toNat:Nat):Int)=d.Scale:=by omega
 have hex:(val d.Digits%10^(d.Scale-s).toNat=0)↔exact (val d.Digits) d.Scale.toNat s:=by unfold exact;rw[hS]
 unfold places;rw[hc,bnd_of,cond_ndec];constructor
 ·intro he;rw[if_pos (hex.2 he),in64 (by omega) (by omega),chk_true,cond_dec];by_cases h:0≤s-d.Scale
  ·obtain⟨k,hk⟩:∃k:Nat,s-d.Scale=k:=⟨(s-d.Scale).toNat,by omega⟩
   have e1:(d.Scale-s).toNat=0:=by omega
   refine⟨List.replicate (n-(d.Digits++List.replicate k 48).length) 48++(d.Digits++List.replicate k 48),?_,?_,?_,?_,?_⟩
   ·rw[if_pos h,hk,lRepeat0 (by omega),bnd_of,catOk_of (by rw[List.length_replicate];omega),chk_true,places_k0_is hn (by rw[List.length_append,List.length_replicate];omega)]
   ·exact Digs.append.2 ⟨Digs.zeros _,Digs.append.2 ⟨h2,Digs.zeros _⟩⟩
   ·rw[val_zeros_append,val_append_zeros];unfold quo;rw[hS,hk,e1,Int.toNat_natCast,Nat.pow_zero,Nat.div_one]
   ·simp only[List.length_append,List.length_replicate];omega
   ·simp only[List.length_append,List.length_replicate];omega
  ·obtain⟨k,hk⟩:∃k:Nat,d.Scale-s=k:=⟨(d.Scale-s).toNat,by omega⟩
   have em:maxI ((d.Digits.length:Int)+(s-d.Scale)) 0=((d.Digits.length-k:Nat):Int):=by unfold maxI;split<;>omega
   have et:takeI d.Digits ((d.Digits.length-k:Nat):Int)=d.Digits.take (d.Digits.length-k):=rfl;have hin:inSub 0 ((d.Digits.length-k:Nat):Int) d.Digits.length=true:=by unfold inSub;simp<;>omega
   have e1:(s-d.Scale).toNat=0:=by omega
   refine⟨List.replicate (n-(d.Digits.take (d.Digits.length-k)).length) 48++d.Digits.take (d.Digits.length-k),?_,?_,?_,?_,?_⟩
   ·rw[if_neg h,in64 (by omega) (by omega),chk_true,em,hin,chk_true,et,places_k0_is hn (by rw[List.length_take];omega)]
   ·exact Digs.append.2 ⟨Digs.zeros _,h2.take _⟩
   ·rw[val_zeros_append];unfold quo;rw[hS,e1,hk,Int.toNat_natCast,Nat.pow_zero,Nat.mul_one];rcases Nat.le_total k d.Digits.length with hkl|hkl
    ·exact (val_take_drop h2 hkl).1
    ·have:d.Digits.length-k=0:=by omega
     rw[this,List.take_zero,val_nil,Nat.div_eq_of_lt (Nat.lt_of_lt_of_le (val_lt h2) (Nat.pow_le_pow_right (by decide) hkl))]
   ·simp only[List.length_append,List.length_replicate,List.length_take];omega
   ·simp only[List.length_append,List.length_replicate,List.length_take];omega
 ·intro he;rw[if_neg (fun h=>he (hex.1 h))]
theorem rCheck_is{N:Nat}(hN:3000<N){d:Decimal}(hl:d.Digits.length≤1000){n:Nat}{s:Int}(hn0:1≤n)(hn:n≤62)(hs: -62≤s)(hs2:s≤62):rCheck N d (n:Int) s=some (if VD d then 0 else 1):=by
 unfold rCheck;rw[dCheck_is hN hl,bnd_of,cond_ndec];by_cases h:VD d
 ·rw[if_pos h,if_pos rfl,cond_dec,if_neg (by omega),cond_dec,if_neg (by omega),cond_dec,if_neg (by omega),cond_dec,if_neg (by omega)]
 ·rw[if_neg h,if_neg (by decide)]
def fitsV(d:Decimal)(n:Nat)(s:Int):Prop:=exact (val d.Digits) d.Scale.toNat s∧quo (val d.Digits) d.Scale.toNat s<10^n
instance(d:Decimal)(n:Nat)(s:Int):Decidable (fitsV d n s):=by unfold fitsV;infer_instance
theorem rFits_is{N:Nat}(hN:3000<N){d:Decimal}(hd:VD d){n:Nat}{s:Int}(hn0:1≤n)(hn:n≤62)(hs: -62≤s)(hs2:s≤62):rFits N d (n:Int) s=some (decide (fitsV d n s),0):=by
 have hlen:d.Digits.length≤1000:=by have:=hd.2.2.1;omega
 obtain⟨p1,p2⟩:=places_is hN hd (n:=n) (s:=s) (by omega) hs hs2;unfold rFits;rw[rCheck_is hN hlen hn0 hn hs hs2,if_pos hd,bnd_of,cond_ndec,if_pos rfl];by_cases he:exact (val d.Digits) d.Scale.toNat s
 ·obtain⟨t,e1,e2,e3,e4,e5⟩:=p1 he;have hin:inSub 0 ((t.length:Int)-(n:Int)) t.length=true:=by unfold inSub;simp<;>omega
  obtain⟨q,g1,g2⟩:=trim0 (s:=t.take (t.length-n)) (by rw[List.length_take];omega) (e2.take _);rw[e1,bnd_of];dsimp only;rw[cond_true,in64 (by omega) (by omega),chk_true,hin,chk_true,takeI_sub _ e4,g1,bnd_of];congr 2;rw[decide_eq_decide,g2,(val_take_drop e2 e4).1,e3];unfold fitsV;have hp:=pow_pos n;constructor
  ·intro h;exact⟨he,by rcases Nat.div_eq_zero_iff.1 h with h|h;omega;exact h⟩
  ·intro h;exact Nat.div_eq_of_lt h.2
 ·rw[p2 he,bnd_of];dsimp only;rw[cond_false,decide_eq_false (fun h=>he h.1)]
theorem rDigits_is{N:Nat}(hN:3000<N){d:Decimal}(hd:VD d){n:Nat}{s:Int}(hn0:1≤n)(hn:n≤62)(hs: -62≤s)(hs2:s≤62):
  rDigits N d (n:Int) s=some (if fitsV d n s then(fmt n (quo (val d.Digits) d.Scale.toNat s),0)else([],14)):=by
 obtain⟨p1,_⟩:=places_is hN hd (n:=n) (s:=s) (by omega) hs hs2;unfold rDigits;rw[rFits_is hN hd hn0 hn hs hs2,bnd_of,cond_ndec,if_pos rfl,cond_ndec];by_cases h:fitsV d n s
 ·obtain⟨t,e1,e2,e3,e4,e5⟩:=p1 h.1;have hin:inSub ((t.length:Int)-(n:Int)) (t.length:Int) t.length=true:=by unfold inSub;simp<;>omega
  rw[if_pos h,if_pos h,e1,bnd_of];dsimp only;rw[in64 (by omega) (by omega),chk_true,hin,chk_true,dropI_sub _ e4];congr 2;refine fmt_of (e2.drop _) (by rw[List.length_drop];omega) ?_;rw[(val_take_drop e2 e4).2,e3,Nat.mod_eq_of_lt h.2]
 ·rw[if_neg h,if_neg h]
theorem fits_iff{v S n:Nat}{s:Int}(hS:S≤62)(hs: -62≤s)(hs2:s≤62):(exact v S s∧quo v S s<10^n)↔∃q,q<10^n∧v*10^(62+s).toNat=q*10^(62+S):=by
 unfold exact quo;have hp:0<10^((S:Int)-s).toNat:=pow_pos _;have key:∀q,(v*10^(s-(S:Int)).toNat=q*10^((S:Int)-s).toNat)↔v*10^(62+s).toNat=q*10^(62+S):=by
  intro q;rcases Int.le_total s S with h|h
  ·have e1:(s-(S:Int)).toNat=0:=by omega
   have e2:62+S=((S:Int)-s).toNat+(62+s).toNat:=by omega
   rw[e1,e2,Nat.pow_zero,Nat.mul_one,Nat.pow_add,←Nat.mul_assoc];constructor
   ·intro h;rw[h]
   ·intro h;exact Nat.eq_of_mul_eq_mul_right (pow_pos _) h
  ·have e1:((S:Int)-s).toNat=0:=by omega
   have e2:(62+s).toNat=(s-(S:Int)).toNat+(62+S):=by omega
   rw[e1,e2,Nat.pow_zero,Nat.mul_one,Nat.pow_add,←Nat.mul_assoc];constructor
   ·intro h;rw[h]
   ·intro h;exact Nat.eq_of_mul_eq_mul_right (pow_pos _) h
 constructor
 ·rintro⟨h1,h2⟩;refine⟨_,h2,(key _).1 ?_⟩;rw[Nat.div_mul_cancel];exact Nat.dvd_trans (Nat.dvd_of_mod_eq_zero h1) (Nat.dvd_mul_right _ _)
 ·rintro⟨q,h1,h2⟩;have h3:=(key q).2 h2;refine⟨?_,by rw[h3,Nat.mul_div_cancel _ hp];exact h1⟩;rcases Int.le_total s S with h|h
  ·have e1:(s-(S:Int)).toNat=0:=by omega
   rw[e1,Nat.pow_zero,Nat.mul_one]at h3;rw[h3];exact Nat.mul_mod_left _ _
  ·have e1:((S:Int)-s).toNat=0:=by omega
   rw[e1,Nat.pow_zero,Nat.mod_one]
theorem quo_of{v S q:Nat}{s:Int}(hS:S≤62)(hs: -62≤s)(hs2:s≤62)(h:v*10^(62+s).toNat=q*10^(62+S)):quo v S s=q:=by
 obtain⟨h1,h2⟩:=(fits_iff (v:=v) (n:=q+1) hS hs hs2).2 ⟨q,Nat.lt_of_lt_of_le (lt_pow10 q) (Nat.pow_le_pow_right (by decide) (by omega)),h⟩;obtain⟨q',h3,h4⟩:=(fits_iff (v:=v) (n:=q+1) hS hs hs2).1 ⟨h1,h2⟩;have hq:q'=q:=Nat.eq_of_mul_eq_mul_right (pow_pos _) (h4.symm.trans h);unfold quo;rcases Int.le_total s S with h'|h'
 ·have e1:(s-(S:Int)).toNat=0:=by omega
  have e2:62+S=((S:Int)-s).toNat+(62+s).toNat:=by omega
  rw[e2,Nat.pow_add,←Nat.mul_assoc]at h;have:=Nat.eq_of_mul_eq_mul_right (pow_pos _) h;rw[e1,Nat.pow_zero,Nat.mul_one,this,Nat.mul_div_cancel _ (pow_pos _)]
 ·have e1:((S:Int)-s).toNat=0:=by omega
  have e2:(62+s).toNat=(s-(S:Int)).toNat+(62+S):=by omega
  rw[e2,Nat.pow_add,←Nat.mul_assoc]at h;have:=Nat.eq_of_mul_eq_mul_right (pow_pos _) h;rw[e1,Nat.pow_zero,Nat.div_one,this]
end Go.Proofs.C06
end
section
set_option maxRecDepth 100000
namespace Go.Proofs.C06
open Go Go.RowKit Go.Vc Go.Am Go.Dg
theorem inIx_of{i n:Nat}(h:i<n):inIx (i:Int) n=true:=inIx_iff.2 ⟨by omega,by omega⟩
theorem byteAt_of(s:List UInt8)(i:Nat):byteAt s (i:Int)=((s.getD i 0).toNat:Int):=rfl
theorem inU8'{n:Int}(h0:0≤n)(h:n≤255):inKb .u8 n=true:=inKb_iff.2 ⟨h0,h⟩
theorem toByte_of{c:Nat}:toByte (c:Int)=UInt8.ofNat c:=rfl
theorem wrap_small{n:Int}(h0:0≤n)(h1:n<256):IntKind.wrap .u8 n=n:=wrap_u8 h0 h1
theorem byte_is{c:UInt8}{k:Nat}(hk:k<256):((c.toNat:Int)=(k:Int))↔c=UInt8.ofNat k:=by
 constructor
 ·intro h;apply UInt8.toNat_inj.1;rw[UInt8.toNat_ofNat'];omega
 ·rintro rfl;rw[UInt8.toNat_ofNat'];omega
end Go.Proofs.C06
end
section
set_option maxRecDepth 100000
namespace Go.Proofs.C06
open Go Go.RowKit Go.Vc Go.Am Go.Dg
theorem lNormal_l1_is(N:Nat)(neg:Bool)(b:Decimal):∀(m n:Nat)(l:List UInt8)(s:Nat),s=m→m<n→Digs l→(∃c r,l=c::r∧c≠48)→l.length≤2000→s≤2000→
  lNormal_l1 N n neg l (s:Int) b=some (Decimal.mk neg (dstr (strip s (val l)).1) ((strip s (val l)).2:Int))
 |m,0,l,s,hm,hn,_,_,_,_=>by omega
 |m,n+1,l,s,hm,hn,hd,⟨c,r,hcr,hc⟩,hl,hs=>by
  have hself:dstr (val l)=l:=dstr_of hd fun c' r' h=>by rw[hcr]at h;cases h;exact hc
  show lNormal_l1_b N (lNormal_l1 N n) neg l (s:Int) b=_;unfold lNormal_l1_b;rw[cond_dec];cases s with
  |zero=>rw[if_neg (by omega)];simp only[strip,hself]
  |succ q=>
   rcases List.eq_nil_or_concat l with h0|⟨t,x,h0⟩
   ·rw[h0]at hcr;cases hcr
   ·rw[List.concat_eq_append]at h0;subst h0;rw[List.length_append]at hl;simp only[List.length_cons,List.length_nil]at hl;rw[Digs.append,Digs.cons]at hd;have hv:=val_snoc t x;have hx:=hd.2.1;have e1:(((t++[x]).length:Int)-1)=(t.length:Int):=by simp
    have hat:byteAt (t++[x]) (t.length:Int)=((x.toNat:Nat):Int):=by unfold byteAt;rw[Int.toNat_natCast,List.getD_eq_getElem?_getD,List.getElem?_append_right (Nat.le_refl _),Nat.sub_self];rfl
    have h48:(((x.toNat:Nat):Int)=48)↔x=48:=byte_is (k:=48) (by decide);rw[if_pos (by omega),e1,in64 (by omega) (by omega),chk_true,inIx_of (by simp),chk_true,hat,cond_dec];by_cases hx0:x=48
    ·have ht:∃c r,t=c::r∧c≠48:=by
      cases t with
      |nil=>cases hcr;exact absurd hx0 hc
      |cons c' r'=>cases hcr;exact⟨_,_,rfl,hc⟩
     have hin:inSub 0 (t.length:Int) (t++[x]).length=true:=by unfold inSub;simp<;>omega
     have e3:takeI (t++[x]) (t.length:Int)=t:=by unfold takeI;simp
     have e4:strip (q+1) (val (t++[x]))=strip q (val t):=by subst hx0;rw[hv,strip,if_pos (by simp)];congr 1;simp
     rw[if_pos (h48.2 hx0),chk_true,hin,chk_true,show((q+1:Nat):Int)-1=(q:Int)by omega,in64 (by omega) (by omega),chk_true,e3,
      lNormal_l1_is N neg b q n t q rfl (by omega) hd.1 ht (by omega) (by omega),e4]
    ·have hx1:x.toNat≠48:=fun e=>hx0 (UInt8.toNat_inj.1 e)
     have e4:strip (q+1) (val (t++[x]))=(val (t++[x]),q+1):=by rw[strip,if_neg (by rw[hv];omega)]
     rw[if_neg (fun h=>hx0 (h48.1 h)),e4,hself]
theorem lNormal_k0_is{N:Nat}(hN:3000<N)(neg:Bool){l:List UInt8}(hd:Digs l)(hl:l.length≤2000){s:Nat}(hs:s≤2000)(h0:l=[]∨∃c r,l=c::r∧c≠48)(b:Decimal):
  lNormal_k0 N neg l (s:Int) b=some (decOf (canon neg (val l) s)):=by
 unfold lNormal_k0;rw[cond_dec];rcases h0 with rfl|⟨c,r,hcr,hc⟩
 ·rw[if_pos rfl];rw[val_nil,canon_zero];rfl
 ·rw[if_neg (by rw[hcr];simp),lNormal_l1_is N neg b s N l s rfl (by omega) hd ⟨c,r,hcr,hc⟩ hl hs];have hv:val l≠0:=fun e=>by have:=(tz_nil hd).2 e;rw[hcr,tz_cons,if_neg hc]at this;cases this
  unfold canon;rw[if_neg hv];rfl
theorem lNormal_l2_is{N:Nat}(hN:3000<N)(neg:Bool){s:Nat}(hs:s≤2000)(b:Decimal):∀(n:Nat)(l:List UInt8),l.length<n→Digs l→l.length≤2000→
  lNormal_l2 N n neg l (s:Int) b=some (decOf (canon neg (val l) s))
 |0,l,h,_,_=>by omega
 |n+1,l,h,hd,hl=>by
  show lNormal_l2_b N (lNormal_l2 N n) neg l (s:Int) b=_;unfold lNormal_l2_b;rw[cond_dec];cases l with
  |nil=>rw[if_neg (by simp)];exact lNormal_k0_is hN neg hd hl hs (.inl rfl) b
  |cons c r=>
   have h48:(((c.toNat:Nat):Int)=48)↔c=48:=byte_is (k:=48) (by decide);have eb:byteAt (c::r) 0=((c.toNat:Nat):Int):=rfl;have hin0:inIx 0 (c::r).length=true:=inIx_of (i:=0) (by simp);simp only[List.length_cons]at h hl;rw[if_pos (by simp<;>omega),hin0,chk_true,eb,cond_dec];by_cases hc:c=48
   ·have hin:inSub 1 ((c::r).length:Int) (c::r).length=true:=by unfold inSub;simp<;>omega
    have ed:dropI (c::r) 1=r:=rfl;rw[if_pos (h48.2 hc),hin,chk_true,ed,lNormal_l2_is hN neg hs b n r (by omega) (Digs.cons.1 hd).2 (by omega)];subst hc;rw[val_cons];simp
   ·rw[if_neg (fun h=>hc (h48.1 h))];exact lNormal_k0_is hN neg hd (by simp<;>omega) hs (.inr ⟨c,r,rfl,hc⟩) b
theorem lNormal_is{N:Nat}(hN:3000<N)(neg:Bool){l:List UInt8}(hd:Digs l)(hl:l.length≤2000){s:Nat}(hs:s≤2000):lNormal N neg l (s:Int)=some (decOf (canon neg (val l) s)):=by unfold lNormal;exact lNormal_l2_is hN neg hs _ N l (by omega) hd hl
theorem lValue_l0_is{N:Nat}(hN:3000<N)(neg:Bool){sc:Int}(hs1: -1000≤sc)(hs:sc≤1000)(b:Decimal):∀(n k:Nat)(l:List UInt8),k<n→k≤1000→Digs l→l.length+k≤2000→((0≤ -(k:Int)→k=0))→
  lValue_l0 N n neg l sc (-(k:Int)) b=some (decOf (canon neg (val l*10^k) sc.toNat))
 |0,k,_,h,_,_,_,_=>by omega
 |n+1,k,l,h,hk,hd,hl,_=>by
  show lValue_l0_b N (lValue_l0 N n) neg l sc (-(k:Int)) b=_;unfold lValue_l0_b;rw[cond_dec];cases k with
  |zero=>
   have e:maxI sc 0=((sc.toNat:Nat):Int):=by unfold maxI;split<;>omega
   rw[if_neg (by omega),e,lNormal_is hN neg hd (by omega) (by omega),bnd_of,Nat.pow_zero,Nat.mul_one]
  |succ k=>
   have e: -((k+1:Nat):Int)+1= -(k:Int):=by omega
   rw[if_pos (by omega),catOk_of (by simp;omega),chk_true,in64 (by omega) (by omega),chk_true,e,
    lValue_l0_is hN neg hs1 hs b n k (l++[48]) (by omega) (by omega) (Digs.append.2 ⟨hd,by decide⟩) (by simp;omega) (by omega),val_snoc,Nat.pow_succ]
   have:(10*val l+((48:UInt8).toNat-48))*10^k=val l*(10^k*10):=by rw[show(48:UInt8).toNat-48=0 from rfl,Nat.add_zero,Nat.mul_comm 10,Nat.mul_assoc,Nat.mul_comm 10]
   rw[this]
theorem lValue_is{N:Nat}(hN:3000<N)(neg:Bool){l:List UInt8}(hd:Digs l)(hl:l.length≤500){sc:Int}(hs1: -1000≤sc)(hs:sc≤1000):lValue N neg l sc=some (decOf (canon neg (val l*10^(-sc).toNat) sc.toNat)):=by
 unfold lValue;by_cases h:sc≤0
 ·have e:sc= -((-sc).toNat:Int):=by omega
  have:=lValue_l0_is (N:=N) hN neg hs1 hs (Decimal.mk false [] 0) N (-sc).toNat l (by omega) (by omega) hd (by omega) (by omega);rw[←e]at this;exact this
 ·obtain⟨M,rfl⟩:∃M,N=M+1:=⟨N-1,by omega⟩
  show lValue_l0_b (M+1) (lValue_l0 (M+1) M) neg l sc sc _=_;unfold lValue_l0_b;have e:maxI sc 0=((sc.toNat:Nat):Int):=by unfold maxI;split<;>omega
  have e2:(-sc).toNat=0:=by omega
  rw[cond_dec,if_neg (by omega),e,lNormal_is hN neg hd (by omega) (by omega),bnd_of,e2,Nat.pow_zero,Nat.mul_one]
end Go.Proofs.C06
end
section
set_option maxRecDepth 100000
namespace Go.Proofs.C06
open Go Go.RowKit Go.Vc Go.Am Go.Dg
theorem fText_l0_is{N:Nat}{x:F}{n:Nat}(hn:x.Digits%18=(n:Int))(h0:0≤x.Digits)(h18:n<18):∀(k i:Nat)(s:List UInt8),i≤n+1→n+1-i<k→Digs s→s.length=i→
  ∃l,fText_l0 N k s (i:Int) x=some l∧Digs l∧l.length=n+1
 |0,i,s,_,hk,_,_=>by omega
 |k+1,i,s,hi,hk,hs,hl=>by
  show∃l,fText_l0_b N (fText_l0 N k) s (i:Int) x=some l∧_;unfold fText_l0_b;have e0:(nonneg x.Digits&&decide (0<18))=true:=by simp[nonneg,h0]
  rw[e0,chk_true,hn,in64 (by omega) (by omega),chk_true,cond_dec];by_cases h:i<n+1
  ·have step:∀d:Nat,d<10→∃l,fText_k1 N (fText_l0 N k) s (i:Int) (d:Int) x=some l∧Digs l∧l.length=n+1:=by intro d hd;unfold fText_k1;have hdg:=dig_ofNat hd;rw[show(48:Int)+(d:Int)=((48+d:Nat):Int)by omega,wrap_small (by omega) (by omega),inU8' (by omega) (by omega),Bool.and_self,chk_true];show∃l,(chk (catOk s [toByte ((48+d:Nat):Int)])<|chk (inKb .i64 ((i:Int)+1))<|fText_l0 N k (s++[toByte ((48+d:Nat):Int)]) ((i:Int)+1) x)=some l∧_;rw[toByte_of,catOk_of (by simp;omega),chk_true,in64 (by omega) (by omega),chk_true,show(i:Int)+1=((i+1:Nat):Int)by omega];refine fText_l0_is hn h0 h18 k (i+1) _ (by omega) (by omega) (Digs.append.2 ⟨hs,?_⟩) (by simp;omega);intro c hc;rw[List.mem_singleton]at hc;rw[hc,hdg];omega
   rw[if_pos (by omega),cond_dec];by_cases c:i<x.Value.length
   ·have e1:(nonneg ((((x.Value.getD i 0).toNat:Nat):Int))&&decide (0<10))=true:=by simp[nonneg]
    rw[if_pos (by omega),inIx_of c,chk_true,byteAt_of,e1,chk_true,show(((x.Value.getD i 0).toNat:Nat):Int)%10=(((x.Value.getD i 0).toNat%10:Nat):Int)by omega];exact step _ (Nat.mod_lt _ (by decide))
   ·rw[if_neg (by omega)];exact step 0 (by decide)
  ·rw[if_neg (by omega)];exact⟨s,rfl,hs,by omega⟩
theorem fText_is{N:Nat}(hN:3000<N){x:F}(h0:0≤x.Digits):∃l,fText N x=some l∧Digs l∧l.length=x.Digits.toNat%18+1:=by unfold fText;exact fText_l0_is (n:=x.Digits.toNat%18) (by omega) h0 (by omega) N 0 [] (by omega) (by omega) Digs.nil rfl
end Go.Proofs.C06
end
