/-
  A part of the proof of the laws.
-/
import Derived.Lib.SlTrimSet
import Derived.Lib.Strings
import Derived.Test.YthajckhlgoonbaaGreatDoorS2
import Derived.Test.YthajckhlgoonbaaGreatDoorPa
import Derived.Laws.Entries
import Derived.Test.YthajckhlgoonbaaGreatDoorS4
section
namespace Go.Dg
def Digs(l:List UInt8):Prop:=∀c∈l,48≤c.toNat∧c.toNat≤57
instance(l:List UInt8):Decidable (Digs l):=by unfold Digs;infer_instance
theorem Digs.nil:Digs []:=by simp[Digs]
theorem Digs.cons{c:UInt8}{l:List UInt8}:Digs (c::l)↔(48≤c.toNat∧c.toNat≤57)∧Digs l:=by simp[Digs]
theorem Digs.append{a b:List UInt8}:Digs (a++b)↔Digs a∧Digs b:=by
 unfold Digs;constructor
 ·intro h;exact⟨fun c hc=>h c (List.mem_append_left _ hc),fun c hc=>h c (List.mem_append_right _ hc)⟩
 ·rintro⟨h1,h2⟩ c hc;rcases List.mem_append.1 hc with h|h
  ·exact h1 c h
  ·exact h2 c h
theorem Digs.take{l:List UInt8}(h:Digs l)(n:Nat):Digs (l.take n):=fun c hc=>h c (List.mem_of_mem_take hc)
theorem Digs.drop{l:List UInt8}(h:Digs l)(n:Nat):Digs (l.drop n):=fun c hc=>h c (List.mem_of_mem_drop hc)
theorem Digs.zeros(n:Nat):Digs (List.replicate n 48):=fun c hc=>by rw[(List.mem_replicate.1 hc).2];decide
def val(l:List UInt8):Nat:=l.foldl (fun a c=>10*a+(c.toNat-48)) 0
theorem Xd:∀(l:List UInt8)(a:Nat),l.foldl (fun a c=>10*a+(c.toNat-48)) a=a*10^l.length+val l
 |[],a=>by simp[val]
 |c::l,a=>by
  have h1:=Xd l (10*a+(c.toNat-48));have h2:=Xd l (10*0+(c.toNat-48));have h3:val (c::l)=l.foldl (fun a c=>10*a+(c.toNat-48)) (10*0+(c.toNat-48)):=rfl;rw[List.foldl_cons,h1,h3,h2,List.length_cons,Nat.pow_succ,Nat.add_mul,Nat.add_mul];have e:10*a*10^l.length=a*(10^l.length*10):=by rw[Nat.mul_comm 10 a,Nat.mul_assoc,Nat.mul_comm 10]
  omega
theorem zi5:val []=0:=rfl
theorem yA(c:UInt8)(l:List UInt8):val (c::l)=(c.toNat-48)*10^l.length+val l:=by have:=Xd l (10*0+(c.toNat-48));have h3:val (c::l)=l.foldl (fun a c=>10*a+(c.toNat-48)) (10*0+(c.toNat-48)):=rfl;rw[h3,this,Nat.mul_zero,Nat.zero_add]
theorem J4(a b:List UInt8):val (a++b)=val a*10^b.length+val b:=by
 have:val (a++b)=b.foldl (fun a c=>10*a+(c.toNat-48)) (val a):=by unfold val;rw[List.foldl_append]
 rw[this,Xd]
theorem Ko(l:List UInt8)(c:UInt8):val (l++[c])=10*val l+(c.toNat-48):=by rw[J4,yA,zi5];simp;omega
theorem pow_pos(n:Nat):0<10^n:=Nat.pow_pos (by decide)
theorem yx:∀{l:List UInt8},Digs l→val l<10^l.length
 |[],_=>by simp[val]
 |c::l,h=>by rw[Digs.cons]at h;have ih:=yx h.2;rw[yA,List.length_cons,Nat.pow_succ];have:(c.toNat-48)*10^l.length≤9*10^l.length:=Nat.mul_le_mul_right _ (by omega);omega
theorem QS:∀n,val (List.replicate n 48)=0
 |0=>rfl
 |n+1=>by rw[List.replicate_succ,yA,QS n];simp
theorem qm(n:Nat)(l:List UInt8):val (List.replicate n 48++l)=val l:=by rw[J4,QS];simp
theorem yi(l:List UInt8)(n:Nat):val (l++List.replicate n 48)=val l*10^n:=by rw[J4,QS,List.length_replicate];simp
theorem zfl{l:List UInt8}(h:Digs l)(h0:val l=0):∀c∈l,c=48:=by
 induction l with
 |nil=>simp
 |cons c l ih=>
  rw[Digs.cons]at h;rw[yA]at h0;have hp:=pow_pos l.length;have h1:(c.toNat-48)*10^l.length=0:=by omega
  have h2:c.toNat-48=0:=by
   rcases Nat.mul_eq_zero.1 h1 with h|h
   ·exact h
   ·omega
  intro x hx;rcases List.mem_cons.1 hx with rfl|hx
  ·apply UInt8.toNat_inj.1;show x.toNat=48;omega
  ·exact ih h.2 (by omega) x hx
theorem zkV{l:List UInt8}(h:∀c∈l,c=48):val l=0:=by rw[List.eq_replicate_of_mem h,QS]
theorem zlh{a b x y P:Nat}(hx:x<P)(hy:y<P)(h:a*P+x=b*P+y):a=b∧x=y:=by
 have h1:a=b:=by
  rcases Nat.lt_trichotomy a b with h'|h'|h'
  ·have:=Nat.mul_le_mul_right P (show a+1≤b from h');rw[Nat.succ_mul]at this;omega
  ·exact h'
  ·have:=Nat.mul_le_mul_right P (show b+1≤a from h');rw[Nat.succ_mul]at this;omega
 subst h1;exact⟨rfl,by omega⟩
theorem zdD:∀{a b:List UInt8},Digs a→Digs b→a.length=b.length→val a=val b→a=b
 |[],[],_,_,_,_=>rfl
 |[],_::_,_,_,h,_=>by simp at h
 |_::_,[],_,_,h,_=>by simp at h
 |x::a,y::b,ha,hb,hl,h=>by
  rw[Digs.cons]at ha hb;simp only[List.length_cons,Nat.add_right_cancel_iff]at hl;rw[yA,yA,hl]at h;have h1:=yx ha.2;rw[hl]at h1;obtain⟨e1,e2⟩:=zlh h1 (yx hb.2) h;rw[zdD ha.2 hb.2 hl e2];have:x.toNat=y.toNat:=by omega
  rw[UInt8.toNat_inj.1 this]
theorem qG{l:List UInt8}(h:Digs l){m:Nat}(hm:m≤l.length):val (l.take (l.length-m))=val l/10^m∧val (l.drop (l.length-m))=val l%10^m:=by
 have e:val l=val (l.take (l.length-m))*10^m+val (l.drop (l.length-m)):=by have:=J4 (l.take (l.length-m)) (l.drop (l.length-m));rw[List.take_append_drop,List.length_drop]at this;rw[this];congr 3;omega
 have hlt:val (l.drop (l.length-m))<10^m:=by have:=yx (h.drop (l.length-m));rw[List.length_drop]at this;rwa [show l.length-(l.length-m)=m by omega]at this
 have hp:=pow_pos m;constructor
 ·rw[e,Nat.mul_comm,Nat.mul_add_div hp,Nat.div_eq_of_lt hlt,Nat.add_zero]
 ·rw[e,Nat.mul_comm,Nat.mul_add_mod,Nat.mod_eq_of_lt hlt]
def fmt:Nat→Nat→List UInt8
 |0,_=>[]
 |n+1,v=>fmt n (v/10)++[UInt8.ofNat (48+v%10)]
theorem yM:∀n v,(fmt n v).length=n
 |0,_=>rfl
 |n+1,v=>by rw[fmt,List.length_append,yM n];rfl
theorem zdl{d:Nat}(h:d<10):(UInt8.ofNat (48+d)).toNat=48+d:=by rw[UInt8.toNat_ofNat'];omega
theorem ZQ:∀n v,Digs (fmt n v)
 |0,_=>Digs.nil
 |n+1,v=>by rw[fmt,Digs.append,Digs.cons];refine⟨ZQ n _,?_,Digs.nil⟩;rw[zdl (Nat.mod_lt _ (by decide))];omega
theorem Z0:∀n v,v<10^n→val (fmt n v)=v
 |0,v,h=>by
  have:v=0:=by simpa using h
  rw[this];rfl
 |n+1,v,h=>by rw[fmt,Ko,Z0 n (v/10) (by rw[Nat.pow_succ]at h;omega),zdl (Nat.mod_lt _ (by decide))];omega
theorem zjw{l:List UInt8}(h:Digs l):fmt l.length (val l)=l:=
 zdD (ZQ _ _) h (yM _ _) (Z0 _ _ (yx h))
theorem zmh{l:List UInt8}{n v:Nat}(h:Digs l)(hl:l.length=n)(hv:val l=v):l=fmt n v:=by subst hl hv;exact (zjw h).symm
def tz(l:List UInt8):List UInt8:=l.dropWhile (· ==48)
theorem zdK(c:UInt8)(l:List UInt8):tz (c::l)=if c=48 then tz l else c::l:=by unfold tz;rw[List.dropWhile_cons];by_cases h:c=48<;>simp[h]
theorem zmX(l:List UInt8):Lib.trimLeftS l [48]=tz l:=by unfold Lib.trimLeftS tz;congr 1;funext c;by_cases h:c=48<;>simp[h]
theorem Y0:∀l,val (tz l)=val l
 |[]=>rfl
 |c::l=>by
  rw[zdK];split
  ·rename_i h;subst h;rw[Y0 l,yA];simp
  ·rfl
theorem Digs.tz{l:List UInt8}(h:Digs l):Digs (tz l):=fun c hc=>h c ((List.dropWhile_sublist _).subset hc)
theorem zoU(l:List UInt8):(tz l).length≤l.length:=(List.dropWhile_sublist _).length_le
theorem W0{l:List UInt8}{c:UInt8}{r:List UInt8}(h:tz l=c::r):c≠48:=by
 induction l with
 |nil=>cases h
 |cons x l ih=>
  rw[zdK]at h;split at h
  ·exact ih h
  ·rename_i hx;cases h;exact hx
theorem Vr{l:List UInt8}(h:Digs l):tz l=[]↔val l=0:=by
 constructor
 ·intro e;rw[←Y0,e];rfl
 ·intro e;rcases hl:tz l with _|⟨c,r⟩
  ·rfl
  ·have:=zfl h.tz (by rw[Y0];exact e) c (by rw[hl];simp);exact absurd this (W0 hl)
theorem Vt{l:List UInt8}(h:Digs l)(h0:val l≠0):10^((tz l).length-1)≤val l∧val l<10^(tz l).length∧1≤(tz l).length:=by
 have hd:=h.tz;have e:=Y0 l;rcases hl:tz l with _|⟨c,r⟩
 ·exact absurd ((Vr h).1 hl) h0
 ·have hc:=W0 hl;rw[hl]at hd e;refine⟨?_,by rw[←e];exact yx hd,by simp⟩;rw[←e,yA,List.length_cons,Nat.add_sub_cancel];rw[Digs.cons]at hd;have h1:1≤c.toNat-48:=by
   have:c.toNat≠48:=fun h=>hc (UInt8.toNat_inj.1 h)
   omega
  have:=Nat.mul_le_mul_right (10^r.length) h1;omega
theorem zpM{a b:List UInt8}(ha:Digs a)(hb:Digs b)(h:val a=val b):tz a=tz b:=by
 by_cases h0:val a=0
 ·rw[(Vr ha).2 h0,(Vr hb).2 (h▸h0)]
 ·obtain⟨a1,a2,a3⟩:=Vt ha h0;obtain⟨b1,b2,b3⟩:=Vt hb (h▸h0);refine zdD ha.tz hb.tz ?_ (by rw[Y0,Y0,h]);rcases Nat.lt_trichotomy (tz a).length (tz b).length with hl|hl|hl
  ·have:=Nat.pow_le_pow_right (show 0<10 by decide) (show(tz a).length≤(tz b).length-1 by omega);omega
  ·exact hl
  ·have:=Nat.pow_le_pow_right (show 0<10 by decide) (show(tz b).length≤(tz a).length-1 by omega);omega
def dstr(v:Nat):List UInt8:=tz (fmt v v)
theorem zgc(v:Nat):v<10^v:=Nat.lt_pow_self (by decide)
theorem JU(v:Nat):Digs (dstr v):=(ZQ v v).tz
theorem Js(v:Nat):val (dstr v)=v:=by unfold dstr;rw[Y0,Z0 v v (zgc v)]
theorem zgE{l:List UInt8}(h:Digs l):dstr (val l)=tz l:=
 zpM (ZQ _ _) h (Z0 _ _ (zgc _))
theorem zdJ(v:Nat):tz (dstr v)=dstr v:=by have:=zgE (JU v);rw[Js]at this;exact this.symm
theorem zbL{v:Nat}:dstr v=[]↔v=0:=by rw[←zdJ,Vr (JU v),Js]
theorem zjE{l:List UInt8}(h:Digs l)(h0:∀c r,l=c::r→c≠48):dstr (val l)=l:=by
 rw[zgE h];cases l with
 |nil=>rfl
 |cons c r=>rw[zdK,if_neg (h0 c r rfl)]
theorem zgG{v:Nat}(h:v≠0):10^((dstr v).length-1)≤v∧v<10^(dstr v).length∧1≤(dstr v).length:=by have:=Vt (JU v) (by rw[Js];exact h);rwa [Js,zdJ]at this
theorem zgF{v n:Nat}(h:v<10^n):(dstr v).length≤n:=by
 by_cases h0:v=0
 ·subst h0;rw[zbL.2 rfl];simp
 ·obtain⟨h1,_,h3⟩:=zgG h0;rcases Nat.lt_or_ge n (dstr v).length with hl|hl
  ·have:=Nat.pow_le_pow_right (show 0<10 by decide) (show n≤(dstr v).length-1 by omega);omega
  ·exact hl
end Go.Dg
end
section
namespace Go.Dg
def zW:Nat→Nat→Nat×Nat
 |0,v=>(v,0)
 |s+1,v=>if v%10=0 then zW s (v/10)else(v,s+1)
theorem qr:∀(s v:Nat),v=(zW s v).1*10^(s-(zW s v).2)∧(zW s v).2≤s∧((zW s v).2=0∨(zW s v).1%10≠0)
 |0,v=>⟨by simp[zW],Nat.le_refl _,.inl rfl⟩
 |s+1,v=>by
  by_cases h:v%10=0
  ·have e:zW (s+1) v=zW s (v/10):=by rw[zW,if_pos h]
   obtain⟨h1,h2,h3⟩:=qr s (v/10);rw[e];refine⟨?_,by omega,h3⟩;rw[show s+1-(zW s (v/10)).2=(s-(zW s (v/10)).2)+1 by omega,Nat.pow_succ,←Nat.mul_assoc,←h1];omega
  ·have e:zW (s+1) v=(v,s+1):=by rw[zW,if_neg h]
   rw[e];exact⟨by simp,Nat.le_refl _,.inr h⟩
theorem zfw{s v:Nat}(h:v≠0):(zW s v).1≠0:=fun e=>by have:=(qr s v).1;rw[e]at this;simp at this;exact h this
def zJ(neg:Bool)(v s:Nat):Bool×List UInt8×Nat:=if v=0 then(false,[48],0)else(neg,dstr (zW s v).1,(zW s v).2)
theorem zbW(neg:Bool)(s:Nat):zJ neg 0 s=(false,[48],0):=by unfold zJ;rw[if_pos rfl]
theorem zgW(neg:Bool)(v s:Nat):(zJ neg v s).2.2≤s:=by
 unfold zJ;split
 ·exact Nat.zero_le _
 ·exact (qr s v).2.1
theorem ziL(neg:Bool)(v s:Nat):Digs (zJ neg v s).2.1:=by
 unfold zJ;split
 ·decide
 ·exact JU _
theorem zmL(neg:Bool)(v s:Nat):(zJ neg v s).2.1≠[]:=by
 unfold zJ;split
 ·simp
 ·rename_i h;rw[Ne,zbL];exact zfw h
theorem zj0{s v:Nat}(h:s=0∨v%10≠0):zW s v=(v,s):=by
 cases s with
 |zero=>rfl
 |succ s=>rw[zW,if_neg (by rcases h with h|h;cases h;exact h)]
theorem zgX(neg:Bool)(v s:Nat):zJ (zJ neg v s).1 (val (zJ neg v s).2.1) (zJ neg v s).2.2=zJ neg v s:=by
 by_cases h0:v=0
 ·subst h0;rw[zbW];rfl
 ·have e:zJ neg v s=(neg,dstr (zW s v).1,(zW s v).2):=by unfold zJ;rw[if_neg h0]
  obtain⟨_,_,h3⟩:=qr s v;rw[e];dsimp only;rw[Js];unfold zJ;rw[if_neg (zfw h0),zj0 h3]
end Go.Dg
end
section
set_option maxRecDepth 100000
namespace Go.Proofs.C06
open Go Go.RowKit Go.Vc Go.Am Go.Dg
theorem yH{a b:List UInt8}(h:a.length+b.length≤1000000):Jd a b=true:=by rw[zdr];omega
theorem QD{p:UInt8→Bool}:∀{l:List UInt8}{c:UInt8}{r:List UInt8},l.dropWhile p=c::r→p c=false
 |[],_,_,h=>by cases h
 |x::l,c,r,h=>by
  rw[List.dropWhile_cons]at h;split at h
  ·exact QD h
  ·rename_i hx;cases h;simpa using hx
theorem Jn{p:UInt8→Bool}:∀{l:List UInt8},l.dropWhile p=[]↔∀c∈l,p c=true
 |[]=>by simp
 |x::l=>by
  rw[List.dropWhile_cons];split
  ·rename_i h;rw[Jn];simp[h]
  ·rename_i h;simp[h]
theorem Vu(s cs:List UInt8):Lib.trimS s cs=[]↔∀c∈s,cs.contains c=true:=by
 unfold Lib.trimS Lib.trimLeftS Lib.trimRightS;rw[Jn];constructor
 ·intro h;have h2:s.reverse.dropWhile (cs.contains ·)=[]:=by
   rcases hr:s.reverse.dropWhile (cs.contains ·)with _|⟨c,r⟩
   ·rfl
   ·have h1:=QD hr;have:=h c (by rw[hr];simp);rw[this]at h1;cases h1
  rw[Jn]at h2;exact fun c hc=>h2 c (by simpa using hc)
 ·intro h c hc;have hc:c∈s.reverse.dropWhile (cs.contains ·):=by simpa using hc
  have:=(List.dropWhile_sublist _).subset hc;exact h c (by simpa using this)
theorem Xh(c:UInt8):([48,49,50,51,52,53,54,55,56,57]:List UInt8).contains c=true↔48≤c.toNat∧c.toNat≤57:=by
 constructor
 ·intro h;simp only[List.contains_cons,List.contains_nil,Bool.or_false,Bool.or_eq_true,beq_iff_eq]at h;rcases h with rfl|rfl|rfl|rfl|rfl|rfl|rfl|rfl|rfl|rfl<;>decide
 ·rintro⟨h1,h2⟩;have:∀m:Fin 256,48≤m.val→m.val≤57→([48,49,50,51,52,53,54,55,56,57]:List UInt8).contains (UInt8.ofNat m.val)=true:=by decide
  have h:=this ⟨c.toNat,UInt8.toNat_lt c⟩ h1 h2;simpa using h
theorem zbm{s cs:List UInt8}(hs:s.length≤1000000)(hc:cs.length≤1000)(ha:QK cs=true):YQ s cs=some (Lib.trimS s cs):=by unfold YQ;rw[decide_eq_true (show s.length≤9223372036854775807 by omega),decide_eq_true (show cs.length<4294967281 by omega),ha];rfl
theorem zbQ{N:Nat}{s:List UInt8}(hs:s.length≤1000000):K4 N s=some (decide (s≠[]∧Digs s)):=by
 unfold K4;rw[zg];by_cases h:s=[]
 ·rw[if_pos h];simp[h]
 ·rw[if_neg h,zbm hs (by decide) (by decide),zc];congr 1;rw[Bool.eq_iff_iff];simp only[decide_eq_true_eq];rw[Vu];constructor
  ·intro k;exact⟨h,fun c hc=>(Xh c).1 (k c hc)⟩
  ·rintro⟨_,k⟩ c hc;exact (Xh c).2 (k c hc)
theorem zh9{s:List UInt8}:Zp s [48]=some (tz s):=by unfold Zp;rw[zmX];rfl
theorem zk6{s:List UInt8}(hs:s.length≤1000000)(hd:Digs s):∃t,YQ s [48]=some t∧(t=[]↔val s=0):=by
 refine⟨_,zbm hs (by decide) (by decide),?_⟩;rw[Vu];constructor
 ·intro h;exact zkV fun c hc=>by simpa using h c hc
 ·intro h c hc;rw[zfl hd h c hc];decide
theorem ZK{m:Nat}(hm:m≤100000):j2 [48] (m:Int)=some (List.replicate m 48):=by
 have e:Lib.repeatL [48] m=List.replicate m 48:=by
  induction m with
  |zero=>rfl
  |succ m ih=>rw[Lib.repeatL,ih (by omega),List.replicate_succ];rfl
 unfold j2;simp only[Int.toNat_natCast,List.length_cons,List.length_nil];rw[decide_eq_true (show(0:Int)≤(m:Int)by omega),decide_eq_true (show(m:Int)≤9223372036854775807 by omega),decide_eq_true (by omega),e];rfl
theorem zgk(l:List UInt8)(c:UInt8)(hl:l.length≤1000000):Yj (l++[c]) [48]=some (decide (c=48)):=by
 unfold Yj;rw[decide_eq_true (by simp;omega),za];congr 1;unfold Lib.hasSuffix;rw[Bool.eq_iff_iff,decide_eq_true_eq,List.isSuffixOf_iff_suffix];constructor
 ·rintro⟨t,ht⟩;have:=congrArg List.getLast? ht;simp at this;exact this.symm
 ·rintro rfl;exact⟨l,rfl⟩
def JX(c:Bool×List UInt8×Nat):Decimal:=Decimal.mk c.1 c.2.1 (c.2.2:Int)
def zi2:Decimal:=Decimal.mk false [] 0
def nrm(neg:Bool)(l:List UInt8)(sc:Int):Decimal×Int:=if 62<(zJ neg (val l*10^(-sc).toNat) sc.toNat).2.1.length∨62<(zJ neg (val l*10^(-sc).toNat) sc.toNat).2.2 then(zi2,14)else(JX (zJ neg (val l*10^(-sc).toNat) sc.toNat),0)
theorem XK(N:Nat)(neg:Bool)(l:List UInt8)(s:Nat)(b:Decimal):ZS N neg l (s:Int) b=some (if 62<l.length∨62<s then(zi2,14)else(Decimal.mk neg l (s:Int),0)):=by
 unfold ZS jq;rw[zb];by_cases h:62<l.length∨62<s
 ·rw[if_pos h,if_pos (by split<;>omega)];rfl
 ·rw[if_neg h,if_neg (by split<;>omega)]
theorem ziz{v:Nat}(h:v≠0)(k:Nat):dstr v++List.replicate k 48=dstr (v*10^k):=by
 have e:val (dstr v++List.replicate k 48)=v*10^k:=by rw[yi,Js]
 rw[←e,zjE (Digs.append.2 ⟨JU v,Digs.zeros k⟩)];intro c r hc;rcases hd:dstr v with _|⟨x,t⟩
 ·exact absurd (zbL.1 hd) h
 ·rw[hd]at hc;cases hc;exact W0 (l:=dstr v) (by rw[zdJ,hd])
theorem XL(N:Nat)(neg:Bool){l:List UInt8}{s:Int}(b:Decimal)(h1: -2000≤s)(hl:l.length≤2000):
  qC N neg l s b=some (if 62<l.length+(-s).toNat∨62<s.toNat then(zi2,14)else(Decimal.mk neg (l++List.replicate (-s).toNat 48) (s.toNat:Int),0)):=by
 unfold qC;rw[zb];by_cases h:s<0
 ·obtain⟨m,hm⟩:∃m:Nat,-s=m:=⟨(-s).toNat,by omega⟩
  have e1:s.toNat=0:=by omega
  rw[if_pos h,hm,zt (by omega) (by omega),za,ZK (by omega),zc,yH (by simp;omega),za];have:=XK N neg (l++List.replicate m 48) 0 b;rw[e1,Int.toNat_natCast];rw[List.length_append,List.length_replicate]at this;exact this
 ·obtain⟨m,hm⟩:∃m:Nat,s=m:=⟨s.toNat,by omega⟩
  rw[if_neg h];have e2:(-s).toNat=0:=by omega
  rw[e2,List.replicate_zero,List.append_nil,Nat.add_zero,hm,XK,Int.toNat_natCast]
theorem K5(N:Nat)(neg:Bool)(b:Decimal):∀(m n:Nat)(l:List UInt8)(s:Int),s.toNat=m→m<n→Digs l→(∃c r,l=c::r∧c≠48)→l.length≤2000→s≤2000→
  ZR N n neg l s b=qC N neg (dstr (zW s.toNat (val l)).1) (if s<0 then s else((zW s.toNat (val l)).2:Int)) b
 |m,0,l,s,hm,hn,_,_,_,_=>by omega
 |m,n+1,l,s,hm,hn,hd,⟨c,r,hcr,hc⟩,hl,hs=>by
  have hself:dstr (val l)=l:=zjE hd fun c' r' h=>by rw[hcr]at h;cases h;exact hc
  show YD N (ZR N n) neg l s b=_;unfold YD;rw[zb];by_cases h:0<s
  ·obtain⟨q,rfl⟩:∃q:Nat,s=(q+1:Nat):=⟨(s-1).toNat,by omega⟩
   rcases List.eq_nil_or_concat l with h0|⟨t,x,h0⟩
   ·rw[h0]at hcr;cases hcr
   ·rw[List.concat_eq_append]at h0;subst h0;rw[List.length_append]at hl;simp only[List.length_cons,List.length_nil]at hl;rw[Digs.append,Digs.cons]at hd;have hv:=Ko t x;have hx:=hd.2.1;rw[if_pos h,zgk t x (by omega),zc,zb,Int.toNat_natCast];by_cases hx0:x=48
    ·have ht:∃c r,t=c::r∧c≠48:=by
      cases t with
      |nil=>cases hcr;exact absurd hx0 hc
      |cons c' r'=>cases hcr;exact⟨_,_,rfl,hc⟩
     have e1:(((t++[x]).length:Int)-1)=(t.length:Int):=by simp
     have e2:(((q+1:Nat):Int)-1)=(q:Int):=by omega
     have hin:zu 0 (t.length:Int) (t++[x]).length=true:=by unfold zu;simp;omega
     have e3:yX (t++[x]) (t.length:Int)=t:=by unfold yX;simp
     have e4:zW (q+1) (val (t++[x]))=zW q (val t):=by subst hx0;rw[hv,zW,if_pos (by simp)];congr 1;simp
     rw[if_pos hx0,e1,e2,zt (by omega) (by omega),za,hin,za,zt (by omega) (by omega),za,e3,
      K5 N neg b q n t (q:Int) (by simp) (by simp at hm;omega) hd.1 ht (by omega) (by omega),e4,Int.toNat_natCast,if_neg (by omega),if_neg (by omega)]
    ·have hx1:x.toNat≠48:=fun e=>hx0 (UInt8.toNat_inj.1 e)
     have e4:zW (q+1) (val (t++[x]))=(val (t++[x]),q+1):=by rw[zW,if_neg (by rw[hv];omega)]
     rw[if_neg hx0,e4,hself,if_neg (by omega)]
  ·rw[if_neg h];have e1:s.toNat=0:=by omega
   rw[e1];simp only[zW,hself];by_cases h2:s<0
   ·rw[if_pos h2]
   ·rw[if_neg h2,show s=((0:Nat):Int)by omega]
theorem Ke{N:Nat}(hN:3000<N)(neg:Bool){l:List UInt8}(hd:Digs l)(hl:l.length≤2000){s:Int}(h1: -2000≤s)(h2:s≤2000):Xi N neg l s=some (nrm neg l s):=by
 unfold Xi;rw[zh9,zc,zb];by_cases h0:val l=0
 ·rw[if_pos ((Vr hd).2 h0)];unfold nrm;rw[h0,Nat.zero_mul,zbW];rfl
 ·have hne:tz l≠[]:=fun e=>h0 ((Vr hd).1 e)
  rw[if_neg hne];obtain⟨c,r,hcr⟩:∃c r,tz l=c::r:=by
   rcases htz:tz l with _|⟨c,r⟩
   ·exact absurd htz hne
   ·exact⟨c,r,rfl⟩
  have hlen:=zoU l;rw[K5 N neg _ s.toNat N (tz l) s rfl (by omega) hd.tz ⟨c,r,hcr,W0 hcr⟩ (by omega) h2,Y0];have hsl:(dstr (zW s.toNat (val l)).1).length≤2000:=by
   have hlt:=yx hd;have hle:(zW s.toNat (val l)).1≤val l:=by have:=(qr s.toNat (val l)).1;have hp:=pow_pos (s.toNat-(zW s.toNat (val l)).2);rw[this];exact Nat.le_trans (Nat.le_of_eq (Nat.mul_one _).symm) (by rw[←this];exact Nat.le_trans (Nat.mul_le_mul_left _ hp) (Nat.le_of_eq this.symm))
   have:=zgF (v:=(zW s.toNat (val l)).1) (n:=l.length) (by omega);omega
  by_cases hs:s<0
  ·rw[if_pos hs,XL N neg _ h1 hsl];have e1:s.toNat=0:=by omega
   unfold nrm;rw[e1];have e2:zW 0 (val l)=(val l,0):=rfl;have hv:val l*10^(-s).toNat≠0:=fun e=>by
    rcases Nat.mul_eq_zero.1 e with e|e
    ·exact h0 e
    ·have:=pow_pos (-s).toNat;omega
   have e3:zJ neg (val l*10^(-s).toNat) 0=(neg,dstr (val l)++List.replicate (-s).toNat 48,0):=by unfold zJ;rw[if_neg hv,ziz h0];rfl
   rw[e2,e3];dsimp only;rw[List.length_append,List.length_replicate];rfl
  ·rw[if_neg hs,XL N neg _ (by omega) hsl];unfold nrm;have e1:(-s).toNat=0:=by omega
   have e3:zJ neg (val l*10^(-s).toNat) s.toNat=(neg,dstr (zW s.toNat (val l)).1,(zW s.toNat (val l)).2):=by rw[e1,Nat.pow_zero,Nat.mul_one];unfold zJ;rw[if_neg h0]
   have e4:(-(((zW s.toNat (val l)).2:Nat):Int)).toNat=0:=by omega
   rw[e3,e4,Int.toNat_natCast,Nat.add_zero,List.replicate_zero,List.append_nil];rfl
def VD(d:Decimal):Prop:=d.Digits≠[]∧Digs d.Digits∧d.Digits.length≤62∧0≤d.Scale∧d.Scale≤62∧nrm d.Neg d.Digits d.Scale=(d,0)
instance(d:Decimal):Decidable (VD d):=by unfold VD;infer_instance
theorem zoh{N:Nat}(hN:3000<N)(neg:Bool){l:List UInt8}(hd:Digs l)(h0:l≠[])(hl:l.length≤1000){s:Int}(h1: -1000≤s)(h2:s≤1000):zmx N neg l s=some (nrm neg l s):=by unfold zmx;rw[zbQ (by omega),zc,zg,if_pos ⟨h0,hd⟩,zb,if_neg (by omega),zb,if_neg (by omega),zb,if_neg (by omega),Ke hN neg hd (by omega) (by omega) (by omega),zc]
theorem Xj{N:Nat}(hN:3000<N){d:Decimal}(hl:d.Digits.length≤1000):Kf N d=some (if VD d then 0 else 1):=by
 unfold Kf;rw[zbQ (by omega),zc,zg];by_cases h1:d.Digits≠[]∧Digs d.Digits
 ·rw[if_pos h1,zb];by_cases h2:62<(d.Digits.length:Int)
  ·rw[if_pos h2,if_neg (fun h=>by have:=h.2.2.1;omega)]
  ·rw[if_neg h2,zb];by_cases h3:d.Scale<0
   ·rw[if_pos h3,if_neg (fun h=>by have:=h.2.2.2.1;omega)]
   ·rw[if_neg h3,zb];by_cases h4:62<d.Scale
    ·rw[if_pos h4,if_neg (fun h=>by have:=h.2.2.2.2.1;omega)]
    ·rw[if_neg h4,Ke hN _ h1.2 (by omega) (by omega) (by omega),zc,zg];by_cases h5:(nrm d.Neg d.Digits d.Scale).2=0
     ·rw[if_pos h5];have e:(decide ((nrm d.Neg d.Digits d.Scale).1.Neg=d.Neg)&&(decide ((nrm d.Neg d.Digits d.Scale).1.Digits=d.Digits)&&(decide ((nrm d.Neg d.Digits d.Scale).1.Scale=d.Scale)&&true)))=decide ((nrm d.Neg d.Digits d.Scale).1=d):=by rw[Bool.eq_iff_iff];obtain⟨a,b,c⟩:=d;generalize (nrm a b c).1=y;obtain⟨p,q,r⟩:=y;simp
      rw[e,zg];by_cases h6:(nrm d.Neg d.Digits d.Scale).1=d
      ·rw[if_pos h6,if_pos ⟨h1.1,h1.2,by omega,by omega,by omega,Prod.ext h6 h5⟩]
      ·rw[if_neg h6,if_neg (fun h=>h6 (by rw[h.2.2.2.2.2]))]
     ·rw[if_neg h5,if_neg (fun h=>h5 (by rw[h.2.2.2.2.2]))]
 ·rw[if_neg h1,if_neg (fun h=>h1 ⟨h.1,h.2.1⟩)]
theorem VD.of{neg:Bool}{v s:Nat}(h1:(zJ neg v s).2.1.length≤62)(h2:(zJ neg v s).2.2≤62):VD (JX (zJ neg v s)):=by
 refine⟨zmL _ _ _,ziL _ _ _,h1,?_,?_,?_⟩
 ·show(0:Int)≤((zJ neg v s).2.2:Int);omega
 ·show((zJ neg v s).2.2:Int)≤62;omega
 ·unfold nrm;have e1:(-(JX (zJ neg v s)).Scale).toNat=0:=by show(-((zJ neg v s).2.2:Int)).toNat=0;omega
  have e2:(JX (zJ neg v s)).Scale.toNat=(zJ neg v s).2.2:=by show(((zJ neg v s).2.2:Nat):Int).toNat=_;omega
  have e3:zJ (JX (zJ neg v s)).Neg (val (JX (zJ neg v s)).Digits) (zJ neg v s).2.2=zJ neg v s:=zgX neg v s;rw[e1,e2,Nat.pow_zero,Nat.mul_one,e3,if_neg (by omega)]
theorem zpl{neg:Bool}{l:List UInt8}{s:Int}(h1:(zJ neg (val l*10^(-s).toNat) s.toNat).2.1.length≤62)(h2:(zJ neg (val l*10^(-s).toNat) s.toNat).2.2≤62):
  nrm neg l s=(JX (zJ neg (val l*10^(-s).toNat) s.toNat),0):=by
 unfold nrm;rw[if_neg (by omega)]
theorem zkK{neg:Bool}{v s n:Nat}(hn:1≤n)(h:v<10^n):(zJ neg v s).2.1.length≤n:=by
 unfold zJ;split
 ·simpa using hn
 ·dsimp only;refine zgF ?_;have:=(qr s v).1;have hp:=pow_pos (s-(zW s v).2);have hle:(zW s v).1≤v:=by rw[this];exact Nat.le_trans (Nat.le_of_eq (Nat.mul_one _).symm) (by rw[←this];exact Nat.le_trans (Nat.mul_le_mul_left _ hp) (Nat.le_of_eq this.symm))
  omega
end Go.Proofs.C06
end
section
set_option maxRecDepth 100000
namespace Go.Proofs.C06
open Go Go.RowKit Go.Vc Go.Am Go.Dg
theorem znY{v len k:Nat}(h:v<10^len):v%10^(min len k)=v%10^k:=by
 rcases Nat.le_total k len with hk|hk
 ·rw[Nat.min_eq_right hk]
 ·rw[Nat.min_eq_left hk,Nat.mod_eq_of_lt h,Nat.mod_eq_of_lt (Nat.lt_of_lt_of_le h (Nat.pow_le_pow_right (by decide) hk))]
theorem zcL(l:List UInt8){m:Nat}(h:m≤l.length):yX l ((l.length:Int)-(m:Int))=l.take (l.length-m):=by unfold yX;congr 1;omega
theorem zdj(l:List UInt8){m:Nat}(h:m≤l.length):yF l ((l.length:Int)-(m:Int))=l.drop (l.length-m):=by unfold yF;congr 1;omega
theorem ziE{N:Nat}(hN:3000<N){d b:Decimal}(hd:VD d){m:Nat}(hm:m≤d.Digits.length):
  K6 N (m:Int) d b=some ((nrm d.Neg (d.Digits.take (d.Digits.length-m)++List.replicate m 48) d.Scale).1,decide (val d.Digits%10^m=0),(nrm d.Neg (d.Digits.take (d.Digits.length-m)++List.replicate m 48) d.Scale).2):=by
 obtain⟨h1,h2,h3,h4,h5,_⟩:=hd;unfold K6;have hin1:zu ((d.Digits.length:Int)-(m:Int)) (d.Digits.length:Int) d.Digits.length=true:=by unfold zu;simp<;>omega
 have hin2:zu 0 ((d.Digits.length:Int)-(m:Int)) d.Digits.length=true:=by unfold zu;simp<;>omega
 obtain⟨t,e1,e2⟩:=zk6 (s:=d.Digits.drop (d.Digits.length-m)) (by rw[List.length_drop];omega) (h2.drop _);rw[zt (by omega) (by omega),za,hin1,za,za,hin2,za,ZK (by omega),zc,zcL _ hm,zdj _ hm,
  yH (by rw[List.length_take,List.length_replicate];omega),za,
  Ke hN _ (Digs.append.2 ⟨h2.take _,Digs.zeros _⟩) (by rw[List.length_append,List.length_take,List.length_replicate];omega) (by omega) (by omega),zc,e1,zc]
 have e3:(t=[])↔val d.Digits%10^m=0:=by rw[e2,(qG h2 hm).2]
 rw[decide_eq_decide.2 e3]
theorem zoi{N:Nat}(hN:3000<N){d:Decimal}(hd:VD d){s:Int}(hs: -1000≤s)(hs2:s≤1000):
  ∃x e,zoj N d s=some (x,decide (val d.Digits%10^(d.Scale-s).toNat=0),e)∧
   (d.Scale≤s→x=d∧e=0)∧(s<d.Scale→∃m,m=min d.Digits.length (d.Scale-s).toNat∧(x,e)=nrm d.Neg (d.Digits.take (d.Digits.length-m)++List.replicate m 48) d.Scale):=by
 have hd':=hd;obtain⟨h1,h2,h3,h4,h5,_⟩:=hd';unfold zoj;rw[Xj hN (by omega),if_pos hd,zc,zg,if_pos rfl,zb];by_cases h:d.Scale≤s
 ·rw[if_pos h];refine⟨d,0,?_,fun _=>⟨rfl,rfl⟩,fun h'=>by omega⟩;have e:(d.Scale-s).toNat=0:=by omega
  rw[e,Nat.pow_zero,Nat.mod_one,decide_eq_true rfl]
 ·rw[if_neg h,zb,if_pos (by omega),zt (by omega) (by omega),za];have em:zkn (d.Digits.length:Int) (d.Scale-s)=((min d.Digits.length (d.Scale-s).toNat:Nat):Int):=by unfold zkn;split<;>omega
  rw[em,ziE hN hd (by omega),znY (yx h2)];exact⟨_,_,rfl,fun h'=>absurd h' h,fun _=>⟨_,rfl,rfl⟩⟩
def quo(v S:Nat)(s:Int):Nat:=v*10^(s-(S:Int)).toNat/10^((S:Int)-s).toNat
def exact(v S:Nat)(s:Int):Prop:=v%10^((S:Int)-s).toNat=0
instance(v S:Nat)(s:Int):Decidable (exact v S s):=by unfold exact;infer_instance
theorem KC{N:Nat}{n:Nat}{s:List UInt8}(hn:n≤1000)(hs:s.length≤1000):Jz N (n:Int) s=some (List.replicate (n-s.length) 48++s,true):=by
 unfold Jz;have e:jq ((n:Int)-(s.length:Int)) 0=((n-s.length:Nat):Int):=by unfold jq;split<;>omega
 rw[zt (by omega) (by omega),za,e,ZK (by omega),zc,yH (by rw[List.length_replicate];omega),za]
theorem zcW{N:Nat}(hN:3000<N){d:Decimal}(hd:VD d){n:Nat}{s:Int}(hn:n≤1000)(hs: -62≤s)(hs2:s≤62):
  (exact (val d.Digits) d.Scale.toNat s→∃t,places N d (n:Int) s=some (t,true)∧Digs t∧val t=quo (val d.Digits) d.Scale.toNat s∧n≤t.length∧t.length≤2000)∧
  (¬exact (val d.Digits) d.Scale.toNat s→places N d (n:Int) s=some ([],false)):=by
 obtain⟨x,e,hc,_⟩:=zoi hN hd (s:=s) (by omega) (by omega);obtain⟨h1,h2,h3,h4,h5,_⟩:=hd;have hS:((d.Scale.toNat:Nat):Int)=d.Scale:=by omega
 have hex:(val d.Digits%10^(d.Scale-s).toNat=0)↔exact (val d.Digits) d.Scale.toNat s:=by unfold exact;rw[hS]
 unfold places;rw[hc,zc,zg];constructor
 ·intro he;rw[if_pos (hex.2 he),zt (by omega) (by omega),za,zb];by_cases h:0≤s-d.Scale
  ·obtain⟨k,hk⟩:∃k:Nat,s-d.Scale=k:=⟨(s-d.Scale).toNat,by omega⟩
   have e1:(d.Scale-s).toNat=0:=by omega
   refine⟨List.replicate (n-(d.Digits++List.replicate k 48).length) 48++(d.Digits++List.replicate k 48),?_,?_,?_,?_,?_⟩
   ·rw[if_pos h,hk,ZK (by omega),zc,yH (by rw[List.length_replicate];omega),za,KC hn (by rw[List.length_append,List.length_replicate];omega)]
   ·exact Digs.append.2 ⟨Digs.zeros _,Digs.append.2 ⟨h2,Digs.zeros _⟩⟩
   ·rw[qm,yi];unfold quo;rw[hS,hk,e1,Int.toNat_natCast,Nat.pow_zero,Nat.div_one]
   ·simp only[List.length_append,List.length_replicate];omega
   ·simp only[List.length_append,List.length_replicate];omega
  ·obtain⟨k,hk⟩:∃k:Nat,d.Scale-s=k:=⟨(d.Scale-s).toNat,by omega⟩
   have em:jq ((d.Digits.length:Int)+(s-d.Scale)) 0=((d.Digits.length-k:Nat):Int):=by unfold jq;split<;>omega
   have et:yX d.Digits ((d.Digits.length-k:Nat):Int)=d.Digits.take (d.Digits.length-k):=rfl;have hin:zu 0 ((d.Digits.length-k:Nat):Int) d.Digits.length=true:=by unfold zu;simp<;>omega
   have e1:(s-d.Scale).toNat=0:=by omega
   refine⟨List.replicate (n-(d.Digits.take (d.Digits.length-k)).length) 48++d.Digits.take (d.Digits.length-k),?_,?_,?_,?_,?_⟩
   ·rw[if_neg h,zt (by omega) (by omega),za,em,hin,za,et,KC hn (by rw[List.length_take];omega)]
   ·exact Digs.append.2 ⟨Digs.zeros _,h2.take _⟩
   ·rw[qm];unfold quo;rw[hS,e1,hk,Int.toNat_natCast,Nat.pow_zero,Nat.mul_one];rcases Nat.le_total k d.Digits.length with hkl|hkl
    ·exact (qG h2 hkl).1
    ·have:d.Digits.length-k=0:=by omega
     rw[this,List.take_zero,zi5,Nat.div_eq_of_lt (Nat.lt_of_lt_of_le (yx h2) (Nat.pow_le_pow_right (by decide) hkl))]
   ·simp only[List.length_append,List.length_replicate,List.length_take];omega
   ·simp only[List.length_append,List.length_replicate,List.length_take];omega
 ·intro he;rw[if_neg (fun h=>he (hex.1 h))]
theorem zkb{N:Nat}(hN:3000<N){d:Decimal}(hl:d.Digits.length≤1000){n:Nat}{s:Int}(hn0:1≤n)(hn:n≤62)(hs: -62≤s)(hs2:s≤62):zd0 N d (n:Int) s=some (if VD d then 0 else 1):=by
 unfold zd0;rw[Xj hN hl,zc,zg];by_cases h:VD d
 ·rw[if_pos h,if_pos rfl,zb,if_neg (by omega),zb,if_neg (by omega),zb,if_neg (by omega),zb,if_neg (by omega)]
 ·rw[if_neg h,if_neg (by decide)]
def zbE(d:Decimal)(n:Nat)(s:Int):Prop:=exact (val d.Digits) d.Scale.toNat s∧quo (val d.Digits) d.Scale.toNat s<10^n
instance(d:Decimal)(n:Nat)(s:Int):Decidable (zbE d n s):=by unfold zbE;infer_instance
theorem zly{N:Nat}(hN:3000<N){d:Decimal}(hd:VD d){n:Nat}{s:Int}(hn0:1≤n)(hn:n≤62)(hs: -62≤s)(hs2:s≤62):zjj N d (n:Int) s=some (decide (zbE d n s),0):=by
 have hlen:d.Digits.length≤1000:=by have:=hd.2.2.1;omega
 obtain⟨p1,p2⟩:=zcW hN hd (n:=n) (s:=s) (by omega) hs hs2;unfold zjj;rw[zkb hN hlen hn0 hn hs hs2,if_pos hd,zc,zg,if_pos rfl];by_cases he:exact (val d.Digits) d.Scale.toNat s
 ·obtain⟨t,e1,e2,e3,e4,e5⟩:=p1 he;have hin:zu 0 ((t.length:Int)-(n:Int)) t.length=true:=by unfold zu;simp<;>omega
  obtain⟨q,g1,g2⟩:=zk6 (s:=t.take (t.length-n)) (by rw[List.length_take];omega) (e2.take _);rw[e1,zc];dsimp only;rw[cond_true,zt (by omega) (by omega),za,hin,za,zcL _ e4,g1,zc];congr 2;rw[decide_eq_decide,g2,(qG e2 e4).1,e3];unfold zbE;have hp:=pow_pos n;constructor
  ·intro h;exact⟨he,by rcases Nat.div_eq_zero_iff.1 h with h|h;omega;exact h⟩
  ·intro h;exact Nat.div_eq_of_lt h.2
 ·rw[p2 he,zc];dsimp only;rw[cond_false,decide_eq_false (fun h=>he h.1)]
theorem zhL{N:Nat}(hN:3000<N){d:Decimal}(hd:VD d){n:Nat}{s:Int}(hn0:1≤n)(hn:n≤62)(hs: -62≤s)(hs2:s≤62):
  Kz N d (n:Int) s=some (if zbE d n s then(fmt n (quo (val d.Digits) d.Scale.toNat s),0)else([],14)):=by
 obtain⟨p1,_⟩:=zcW hN hd (n:=n) (s:=s) (by omega) hs hs2;unfold Kz;rw[zly hN hd hn0 hn hs hs2,zc,zg,if_pos rfl,zg];by_cases h:zbE d n s
 ·obtain⟨t,e1,e2,e3,e4,e5⟩:=p1 h.1;have hin:zu ((t.length:Int)-(n:Int)) (t.length:Int) t.length=true:=by unfold zu;simp<;>omega
  rw[if_pos h,if_pos h,e1,zc];dsimp only;rw[zt (by omega) (by omega),za,hin,za,zdj _ e4];congr 2;refine zmh (e2.drop _) (by rw[List.length_drop];omega) ?_;rw[(qG e2 e4).2,e3,Nat.mod_eq_of_lt h.2]
 ·rw[if_neg h,if_neg h]
end Go.Proofs.C06
end
section
namespace Go.Dg
open Go
theorem zff(k:IntKind)(n:Int):k.wrap n=k.wrap (n% (2^k.bits:Int)):=by unfold IntKind.wrap;simp only[Int.emod_emod_of_dvd _ (Int.dvd_refl _)]
theorem zhl{k:IntKind}{m n:Int}(h:m% (2^k.bits:Int)=n% (2^k.bits:Int)):k.wrap m=k.wrap n:=by rw[zff,h,←zff]
theorem zi3{n:Int}(h0:0≤n)(h1:n<256):IntKind.wrap .u8 n=n:=by have e:(2^IntKind.bits .u8:Int)=256:=rfl;unfold IntKind.wrap;rw[e];simp only[show IntKind.signed .u8=false from rfl,Bool.false_and,Bool.false_eq_true,if_false];omega
theorem wrap_u64(n:Int):IntKind.wrap .u64 n=n%18446744073709551616:=by have e:(2^IntKind.bits .u64:Int)=18446744073709551616:=rfl;unfold IntKind.wrap;rw[e];simp only[show IntKind.signed .u64=false from rfl,Bool.false_and,Bool.false_eq_true,if_false]
theorem zfe(n:Int):IntKind.wrap .u8 n=n%256:=by have e:(2^IntKind.bits .u8:Int)=256:=rfl;unfold IntKind.wrap;rw[e];simp only[show IntKind.signed .u8=false from rfl,Bool.false_and,Bool.false_eq_true,if_false]
theorem wrap_i64(n:Int):IntKind.wrap .i64 n=if 9223372036854775808≤n%18446744073709551616 then n%18446744073709551616-18446744073709551616 else n%18446744073709551616:=by have e:(2^IntKind.bits .i64:Int)=18446744073709551616:=rfl;have e2:(2^(IntKind.bits .i64-1):Int)=9223372036854775808:=rfl;unfold IntKind.wrap;rw[e,e2];simp only[show IntKind.signed .i64=true from rfl,Bool.true_and,decide_eq_true_eq,ge_iff_le]
theorem zfg{n:Int}(h0: -9223372036854775808≤n)(h1:n<9223372036854775808):IntKind.wrap .i64 n=n:=by rw[wrap_i64];split<;>omega
theorem qM(w:Nat)(x:Int):((BitVec.ofInt w x).toNat:Int)=x% (2^w:Int):=by
 rw[BitVec.toNat_ofInt,Int.toNat_of_nonneg]
 ·norm_cast
 ·exact Int.emod_nonneg _ (by have:=Nat.two_pow_pos w;omega)
theorem Zk{k:IntKind}{x:Int}{m:Nat}(hm:m≤k.bits):bits .and k x ((2^m-1:Nat):Int)=k.wrap (x% ((2^m:Nat):Int)):=by
 have h2:(BitVec.ofInt k.bits ((2^m-1:Nat):Int)).toNat=2^m-1:=by
  have h:=qM k.bits ((2^m-1:Nat):Int);have hle:(2:Nat)^m≤2^k.bits:=Nat.pow_le_pow_right (by decide) hm;have hp:=Nat.two_pow_pos m;have hc:(2^k.bits:Int)=((2^k.bits:Nat):Int):=by norm_cast
  rw[hc,Int.emod_eq_of_lt (by omega) (by omega)]at h;omega
 unfold bits;simp only[BitVec.toNat_and,h2,Nat.and_two_pow_sub_one_eq_mod];congr 1;rw[Int.natCast_emod,qM];refine Int.emod_emod_of_dvd _ ?_;have:=Nat.pow_dvd_pow 2 hm;have hc:(2^k.bits:Int)=((2^k.bits:Nat):Int):=by norm_cast
 rw[hc];exact Int.natCast_dvd_natCast.2 this
theorem zg3{k:IntKind}{a x:Int}{m:Nat}(hm:m≤k.bits)(ha:a% ((2^m:Nat):Int)=0)(h0:0≤x)(hx:x<((2^m:Nat):Int)):bits .or k a x=k.wrap (a+x):=by
 have hc:(2^k.bits:Int)=((2^k.bits:Nat):Int):=by norm_cast
 have hle:(2:Nat)^m≤2^k.bits:=Nat.pow_le_pow_right (by decide) hm;obtain⟨A,hA⟩:∃A:Nat,(BitVec.ofInt k.bits a).toNat=A*2^m:=by
  have h:=qM k.bits a;have hd:((2^m:Nat):Int)∣((BitVec.ofInt k.bits a).toNat:Int):=by apply Int.dvd_of_emod_eq_zero;rw[h,hc,Int.emod_emod_of_dvd _ (Int.natCast_dvd_natCast.2 (Nat.pow_dvd_pow 2 hm))];exact ha
  obtain⟨q,hq⟩:=Int.natCast_dvd_natCast.1 hd;exact⟨q,by rw[hq,Nat.mul_comm]⟩
 obtain⟨y,rfl⟩:∃y:Nat,x=y:=⟨x.toNat,by omega⟩
 have hy:y<2^m:=by omega
 have hX:(BitVec.ofInt k.bits (y:Int)).toNat=y:=by have h:=qM k.bits (y:Int);rw[hc,Int.emod_eq_of_lt (by omega) (by omega)]at h;omega
 unfold bits;simp only[BitVec.toNat_or,hX];have hor:(BitVec.ofInt k.bits a).toNat|||y=(BitVec.ofInt k.bits a).toNat+y:=by rw[hA,←Nat.shiftLeft_eq,Nat.shiftLeft_add_eq_or_of_lt hy]
 rw[hor];apply zhl;rw[Int.natCast_add,qM,Int.emod_add_emod]
theorem zoL{x:Int}:bits .and .u8 x 15=x%16:=by have:=Zk (k:=.u8) (x:=x) (m:=4) (by decide);rw[show((2^4-1:Nat):Int)=15 from rfl,show((2^4:Nat):Int)=16 from rfl,zi3 (by omega) (by omega)]at this;exact this
theorem zpJ{x:Int}:bits .and .i64 x 255=x%256:=by have:=Zk (k:=.i64) (x:=x) (m:=8) (by decide);rw[show((2^8-1:Nat):Int)=255 from rfl,show((2^8:Nat):Int)=256 from rfl,zfg (by omega) (by omega)]at this;exact this
theorem zpi{a x:Int}(ha:a%256=0)(h0:0≤x)(hx:x<256):bits .or .u64 a x=(a+x)%18446744073709551616:=by have:=zg3 (k:=.u64) (a:=a) (x:=x) (m:=8) (by decide) (by simpa using ha) h0 (by simpa using hx);rw[this,wrap_u64]
end Go.Dg
end
section
set_option maxRecDepth 100000
namespace Go.Proofs.C06
open Go Go.RowKit Go.Vc Go.Am Go.Dg
theorem jt{i n:Nat}(h:i<n):zn (i:Int) n=true:=zB.2 ⟨by omega,by omega⟩
theorem z8(s:List UInt8)(i:Nat):byteAt s (i:Int)=((s.getD i 0).toNat:Int):=rfl
theorem Ws{n:Int}(h0:0≤n)(h:n≤255):zd .u8 n=true:=yC.2 ⟨h0,h⟩
theorem Wc(c:UInt8):c.toNat<256:=UInt8.toNat_lt c
theorem zk7(c:UInt8):((c.toNat:Int).toNat.toUInt8)=c:=by simp
theorem zcJ{c:Nat}:toByte (c:Int)=UInt8.ofNat c:=rfl
theorem zdN(c:UInt8):toByte ((c.toNat:Nat):Int)=c:=by unfold toByte;rw[Int.toNat_natCast];exact UInt8.ofNat_toNat
theorem zgt{l:List UInt8}{i:Nat}(h:i<l.length):l.getD i 0∈l:=by rw[List.getD_eq_getElem?_getD,List.getElem?_eq_getElem h];exact List.getElem_mem h
theorem JW{l:List UInt8}(hd:Digs l){i:Nat}(h:i<l.length):48≤(l.getD i 0).toNat∧(l.getD i 0).toNat≤57:=hd _ (zgt h)
theorem zj3{l:List UInt8}{i:Nat}(h:i<l.length)(x:UInt8):l.take i++[x]++l.drop (i+1)=l.set i x:=by rw[List.set_eq_take_append_cons_drop,if_pos h,List.append_assoc];rfl
def zfQ:List UInt8:=[123,65,66,67,68,69,70,71,72,73]
def VO:List UInt8:=[125,74,75,76,77,78,79,80,81,82]
def zhS:List UInt8:=[48,49,50,51,52,53,54,55,56,57]
def ixC(c:UInt8):Int:=jq (Lib.indexByte zfQ c) (Lib.indexByte VO c)
def zmv(c:UInt8):Option (Bool×UInt8):=if 0≤ixC c then some (decide (0≤Lib.indexByte VO c),zhS.getD (ixC c).toNat 0)else none
def letC(ng:Bool)(c:UInt8):UInt8:=(if ng then VO else zfQ).getD (c.toNat-48) 0
theorem zpp(c:UInt8):ixC c<10:=by
 have:∀m:Fin 256,ixC (UInt8.ofNat m.val)<10:=by decide
 have h:=this ⟨c.toNat,Wc c⟩;simpa using h
theorem zkH(ng:Bool){c:UInt8}(h:48≤c.toNat∧c.toNat≤57):zmv (letC ng c)=some (ng,c):=by
 have:∀m:Fin 256,48≤m.val→m.val≤57→zmv (letC true (UInt8.ofNat m.val))=some (true,UInt8.ofNat m.val)∧zmv (letC false (UInt8.ofNat m.val))=some (false,UInt8.ofNat m.val):=by decide
 have h2:=this ⟨c.toNat,Wc c⟩ h.1 h.2;simp only[UInt8.ofNat_toNat]at h2;cases ng
 ·exact h2.2
 ·exact h2.1
def sgnAt(ld:Bool)(n:Nat):Nat:=if ld then 0 else n-1
theorem zml{N:Nat}{f:form}{n:Nat}(hn:f.Digits=(n:Int))(h1:1≤n)(h2:n≤100):zjz N f=some ((sgnAt f.Leading n:Nat):Int):=by
 unfold zjz sgnAt;cases f.Leading with
 |true=>rfl
 |false=>rw[cond_false,hn,zt (by omega) (by omega),za,if_neg (by simp)];congr 1;omega
theorem zfz{ld:Bool}{n:Nat}(h:1≤n):sgnAt ld n<n:=by unfold sgnAt;split<;>omega
def rZ(sg ld:Bool)(n:Nat)(b:List UInt8):digits×Bool:=
 if sg then match zmv (b.getD (sgnAt ld n) 0)with
  |some (ng,x)=>(digits.mk ng (b.set (sgnAt ld n) x),decide (Digs (b.set (sgnAt ld n) x)))
  |none=>(digits.mk false b,decide (Digs b))
 else(digits.mk false b,decide (Digs b))
theorem zow{s:List UInt8}(hs:s.length≤1000000):∃t,YQ s [48,49,50,51,52,53,54,55,56,57]=some t∧(t=[]↔Digs s):=by refine⟨_,zbm hs (by decide) (by decide),?_⟩;rw[Vu];exact⟨fun h c hc=>(Xh c).1 (h c hc),fun h c hc=>(Xh c).2 (h c hc)⟩
theorem J5{N:Nat}(b0 b1:digits)(h:b1.s.length≤1000):Zm N b0 b1=some (b1,decide (Digs b1.s)):=by unfold Zm;obtain⟨t,h1,h2⟩:=zow (s:=b1.s) (by omega);rw[h1,zc,decide_eq_decide.2 h2]
theorem zjR{N:Nat}{f:form}{b:List UInt8}{n:Nat}(hn:f.Digits=(n:Int))(h1:1≤n)(h2:n≤100)(hb:b.length=n):zaM N f b=some (rZ f.Signed f.Leading n b):=by
 unfold zaM rZ;rw[zml hn h1 h2,zc];have hlt:=zfz (ld:=f.Leading) h1;generalize sgnAt f.Leading n=i at hlt;cases f.Signed with
 |false=>rw[cond_false,J5 _ _ (by show b.length≤1000;omega),if_neg (by simp)]
 |true=>
  rw[cond_true,if_pos rfl,jt (by omega),za,z8];unfold qx;rw[zk7,zc,zc];have e:jq (Lib.indexByte [123,65,66,67,68,69,70,71,72,73] (b.getD i 0)) (Lib.indexByte [125,74,75,76,77,78,79,80,81,82] (b.getD i 0))=ixC (b.getD i 0):=rfl;rw[e,zb];have hk:=zpp (b.getD i 0);unfold zmv;by_cases h0:0≤ixC (b.getD i 0)
  ·obtain⟨k,hk0⟩:∃k:Nat,ixC (b.getD i 0)=k:=⟨(ixC (b.getD i 0)).toNat,by omega⟩
   have hsub:Vc.sub ([48,49,50,51,52,53,54,55,56,57]:List UInt8) (k:Int) ((k:Int)+1)=[zhS.getD k 0]:=by
    have:∀m:Fin 10,Vc.sub ([48,49,50,51,52,53,54,55,56,57]:List UInt8) ((m.val:Nat):Int) (((m.val:Nat):Int)+1)=[zhS.getD m.val 0]:=by decide
    exact this ⟨k,by omega⟩
   have hin1:zu 0 (i:Int) b.length=true:=by unfold zu;simp<;>omega
   have hin2:zu (k:Int) ((k:Int)+1) ([48,49,50,51,52,53,54,55,56,57]:List UInt8).length=true:=by unfold zu;simp<;>omega
   have hin3:zu ((i:Int)+1) (b.length:Int) b.length=true:=by unfold zu;simp<;>omega
   have ht:yX b (i:Int)=b.take i:=rfl;have hd:yF b ((i:Int)+1)=b.drop (i+1):=by unfold yF;congr 1
   rw[if_pos h0,if_pos h0,hk0,hsub,hin1,za,zt (by omega) (by omega),za,hin2,za,ht,yH (by simp[List.length_take];omega),za,zt (by omega) (by omega),za,hin3,za,hd,
    yH (by simp[List.length_take];omega),za,zj3 (by omega),J5 _ _ (by show(b.set i _).length≤1000;rw[List.length_set];omega),Int.toNat_natCast]
   rfl
  ·rw[if_neg h0,if_neg h0,J5 _ _ (by show b.length≤1000;omega)]
def wZ(sg ld ng:Bool)(n:Nat)(s:List UInt8):List UInt8:=if sg then s.set (sgnAt ld n) (letC ng (s.getD (sgnAt ld n) 0))else s
theorem Zu{n:Int}(h0:0≤n)(h1:n<256):IntKind.wrap .u8 n=n:=zi3 h0 h1
theorem zoN{sg ld ng:Bool}{n:Nat}{s:List UInt8}:(wZ sg ld ng n s).length=s.length:=by unfold wZ;split<;>simp
theorem zpS{sg ld ng:Bool}{n:Nat}{s:List UInt8}(h1:1≤n)(hs:s.length=n)(hd:Digs s):rZ sg ld n (wZ sg ld ng n s)=(digits.mk (sg&&ng) s,true):=by
 have hlt:=zfz (ld:=ld) h1;unfold rZ wZ;cases sg with
 |false=>simp[hd]
 |true=>
  simp only[if_true,Bool.true_and];have e:(s.set (sgnAt ld n) (letC ng (s.getD (sgnAt ld n) 0))).getD (sgnAt ld n) 0=letC ng (s.getD (sgnAt ld n) 0):=by rw[List.getD_eq_getElem?_getD,List.getElem?_set_self (by omega)];rfl
  have e2:(s.set (sgnAt ld n) (letC ng (s.getD (sgnAt ld n) 0))).set (sgnAt ld n) (s.getD (sgnAt ld n) 0)=s:=by
   rw[List.set_set];apply List.ext_getElem?;intro j;rw[List.getElem?_set];split
   ·rename_i h;subst h;rw[if_pos (by omega),List.getD_eq_getElem?_getD,List.getElem?_eq_getElem (by omega)];rfl
   ·rfl
  rw[e,zkH ng (JW hd (by omega))];dsimp only;rw[e2,decide_eq_true hd]
def rS(ld:Bool)(n:Nat)(b:List UInt8):digits×Bool:=(digits.mk (decide (b.getD (if ld then 0 else n) 0=45)) (if ld then b.drop 1 else b.take n),decide ((b.getD (if ld then 0 else n) 0=43∨b.getD (if ld then 0 else n) 0=45)∧Digs (if ld then b.drop 1 else b.take n)))
theorem zjH{c:UInt8}{k:Nat}(hk:k<256):((c.toNat:Int)=(k:Int))↔c=UInt8.ofNat k:=by
 constructor
 ·intro h;apply UInt8.toNat_inj.1;rw[UInt8.toNat_ofNat'];omega
 ·rintro rfl;rw[UInt8.toNat_ofNat'];omega
theorem YK{N:Nat}{f:form}{b:List UInt8}{n at_ fr:Nat}(hn:f.Digits=(n:Int))(h2:n≤100)(hb:b.length=n+1)(ha:at_<b.length)(hf:fr+n≤b.length)(d:digits):
  yW N b (at_:Int) (fr:Int) f d=some (digits.mk (decide (b.getD at_ 0=45)) ((b.take (fr+n)).drop fr),decide ((b.getD at_ 0=43∨b.getD at_ 0=45)∧Digs ((b.take (fr+n)).drop fr))):=by
 unfold yW;have e1:(fr:Int)+f.Digits=((fr+n:Nat):Int):=by omega
 have hin:zu (fr:Int) ((fr+n:Nat):Int) b.length=true:=by unfold zu;simp<;>omega
 have es:Vc.sub b (fr:Int) ((fr+n:Nat):Int)=(b.take (fr+n)).drop fr:=rfl;have h43:(((b.getD at_ 0).toNat:Int)=43)↔b.getD at_ 0=43:=zjH (k:=43) (by decide);have h45:(((b.getD at_ 0).toNat:Int)=45)↔b.getD at_ 0=45:=zjH (k:=45) (by decide);obtain⟨t,t1,t2⟩:=zow (s:=(b.take (fr+n)).drop fr) (by rw[List.length_drop,List.length_take];omega);rw[jt ha,za,e1,zt (by omega) (by omega),za,hin,za,z8,es];simp only[t1,zc,za,decide_eq_decide.2 h43,decide_eq_decide.2 h45,decide_eq_decide.2 t2];clear h43 h45;generalize b.getD at_ 0=x;by_cases c1:x=43
 ·simp[c1]
 ·by_cases c2:x=45
  ·simp[c2]
  ·simp[c1,c2]
theorem zdH{N:Nat}{f:form}{b:List UInt8}{n:Nat}(hn:f.Digits=(n:Int))(h2:n≤100)(hb:b.length=n+1):Jt N f b=some (rS f.Leading n b):=by
 unfold Jt rS;cases f.Leading with
 |true=>rw[cond_true];have:=YK (N:=N) hn h2 hb (at_:=0) (fr:=1) (by omega) (by omega) (digits.mk false []);rw[show(b.take (1+n)).drop 1=b.drop 1 by rw[List.take_of_length_le (by omega)]]at this;exact this
 |false=>rw[cond_false,hn];have:=YK (N:=N) hn h2 hb (at_:=n) (fr:=0) (by omega) (by omega) (digits.mk false []);rw[Nat.zero_add,List.drop_zero]at this;exact this
def wS(ld ng:Bool)(s:List UInt8):List UInt8:=if ld then(if ng then 45 else 43)::s else s++[if ng then 45 else 43]
theorem zoO{ld ng:Bool}{s:List UInt8}:(wS ld ng s).length=s.length+1:=by unfold wS;split<;>simp
theorem zpT{ld ng:Bool}{n:Nat}{s:List UInt8}(hs:s.length=n)(hd:Digs s):rS ld n (wS ld ng s)=(digits.mk ng s,true):=by
 unfold rS wS;cases ld with
 |true=>cases ng<;>simp[hd]
 |false=>
  have e:(s++[if ng then(45:UInt8)else 43]).getD n 0=if ng then 45 else 43:=by rw[List.getD_eq_getElem?_getD,List.getElem?_append_right (by omega)];simp[hs]
  have e2:(s++[if ng then(45:UInt8)else 43]).take n=s:=by rw[List.take_append_of_le_length (by omega),List.take_of_length_le (by omega)]
  simp only[Bool.false_eq_true,if_false,e,e2];cases ng<;>simp[hd]
end Go.Proofs.C06
end
section
set_option maxRecDepth 100000
namespace Go.Proofs.C06
open Go Go.RowKit Go.Vc Go.Am Go.Dg
def nib:List UInt8→List UInt8
 |[]=>[]
 |x::r=>UInt8.ofNat (x.toNat/16)::UInt8.ofNat (x.toNat%16)::nib r
theorem zaa:∀b,(nib b).length=2*b.length
 |[]=>rfl
 |x::r=>by rw[nib,List.length_cons,List.length_cons,zaa r,List.length_cons];omega
theorem zbd:∀a b,nib (a++b)=nib a++nib b
 |[],_=>rfl
 |x::a,b=>by rw[List.cons_append,nib,nib,zbd a b];rfl
theorem zc1:∀b,∀c∈nib b,c.toNat<16
 |[],c,h=>by cases h
 |x::r,c,h=>by
  have hx:=Wc x;rw[nib]at h;rcases List.mem_cons.1 h with rfl|h
  ·rw[UInt8.toNat_ofNat'];omega
  ·rcases List.mem_cons.1 h with rfl|h
   ·rw[UInt8.toNat_ofNat'];omega
   ·exact zc1 r c h
theorem yD{n:Nat}(h:n≤1000000):zw 1 n=true:=by unfold zw;simp;omega
theorem zf1{b:List UInt8}{i:Nat}(h:i<b.length):nib (b.take (i+1))=nib (b.take i)++[UInt8.ofNat ((b.getD i 0).toNat/16),UInt8.ofNat ((b.getD i 0).toNat%16)]:=by
 have e:b.take (i+1)=b.take i++[b.getD i 0]:=by rw[List.take_add_one,List.getElem?_eq_getElem h,List.getD_eq_getElem?_getD,List.getElem?_eq_getElem h];rfl
 rw[e,zbd];rfl
theorem zjp(c:UInt8):([(((c.toNat:Nat):Int)/2^(Int.toNat 4)),(bits .and .u8 ((c.toNat:Nat):Int) 15)].map toByte)=[UInt8.ofNat (c.toNat/16),UInt8.ofNat (c.toNat%16)]:=by
 rw[zoL];have e1:(((c.toNat:Nat):Int)/2^(Int.toNat 4))=((c.toNat/16:Nat):Int):=by show(((c.toNat:Nat):Int)/16)=_;omega
 have e2:((c.toNat:Nat):Int)%16=((c.toNat%16:Nat):Int):=by omega
 rw[e1,e2];rfl
theorem zlS(c:UInt8):(zd .u8 (((c.toNat:Nat):Int)/2^(Int.toNat 4))&&(zd .u8 (bits .and .u8 ((c.toNat:Nat):Int) 15)&&true))=true:=by
 have hc:=Wc c;rw[zoL];have e1:(((c.toNat:Nat):Int)/2^(Int.toNat 4))=((c.toNat/16:Nat):Int):=by show(((c.toNat:Nat):Int)/16)=_;omega
 rw[e1,Ws (by omega) (by omega),Ws (by omega) (by omega)];rfl
def pdig(h:List UInt8):List UInt8:=h.map fun c=>UInt8.ofNat (c.toNat+48)
def VJ(sg:Bool)(l:UInt8):Prop:=if sg then l.toNat=12∨l.toNat=13 else l.toNat=15
instance(sg:Bool)(l:UInt8):Decidable (VJ sg l):=by unfold VJ;infer_instance
def rP(sg:Bool)(D:Nat)(b:List UInt8):digits×Bool:=if∀c∈(nib b).take (2*b.length-1),c.toNat≤9 then(digits.mk (decide (((nib b).getD (2*b.length-1) 0).toNat=13)) ((pdig ((nib b).take (2*b.length-1))).drop (2*b.length-1-D)),decide (VJ sg ((nib b).getD (2*b.length-1) 0)∧val ((pdig ((nib b).take (2*b.length-1))).take (2*b.length-1-D))=0))else(digits.mk false [],false)
theorem zcX{h:List UInt8}(hh:∀c∈h,c.toNat≤9):Digs (pdig h):=by intro x hx;unfold pdig at hx;obtain⟨c,hc,rfl⟩:=List.mem_map.1 hx;have:=hh c hc;rw[UInt8.toNat_ofNat'];omega
def KV(h:List UInt8)(t:Nat)(l:UInt8):List UInt8:=pdig (h.take t)++h.drop t++[l]
theorem zma{h:List UInt8}{t:Nat}{l:UInt8}(ht:t≤h.length):(KV h t l).length=h.length+1:=by unfold KV pdig;simp[List.length_take,List.length_drop];omega
theorem zn3{h:List UInt8}{t:Nat}{l:UInt8}(ht:t<h.length):(KV h t l).getD t 0=h.getD t 0:=by
 unfold KV;have e:(pdig (h.take t)).length=t:=by unfold pdig;simp[List.length_take];omega
 rw[List.append_assoc,List.getD_eq_getElem?_getD,List.getElem?_append_right (by omega),e,Nat.sub_self,List.getElem?_append_left (by rw[List.length_drop];omega),List.getElem?_drop,Nat.add_zero,List.getD_eq_getElem?_getD]
theorem zl9{h:List UInt8}{t:Nat}{l:UInt8}(ht:t<h.length):(KV h t l).set t (UInt8.ofNat ((h.getD t 0).toNat+48))=KV h (t+1) l:=by
 have e:(pdig (h.take t)).length=t:=by unfold pdig;simp[List.length_take];omega
 have e1:h.drop t=h.getD t 0::h.drop (t+1):=by rw[List.drop_eq_getElem_cons ht,List.getD_eq_getElem?_getD,List.getElem?_eq_getElem ht];rfl
 have e2:h.take (t+1)=h.take t++[h.getD t 0]:=by rw[List.take_add_one,List.getElem?_eq_getElem ht,List.getD_eq_getElem?_getD,List.getElem?_eq_getElem ht];rfl
 have e3:pdig (h.take (t+1))=pdig (h.take t)++[UInt8.ofNat ((h.getD t 0).toNat+48)]:=by rw[e2];unfold pdig;rw[List.map_append];rfl
 unfold KV;rw[e3,e1];have:pdig (h.take t)++h.getD t 0::h.drop (t+1)++[l]=pdig (h.take t)++(h.getD t 0::(h.drop (t+1)++[l])):=by simp
 rw[this,List.set_append_right _ _ (by omega),e,Nat.sub_self,List.set_cons_zero];simp
theorem zkw{h:List UInt8}{l:UInt8}:KV h h.length l=pdig h++[l]:=by unfold KV;rw[List.take_length,List.drop_length,List.append_nil]
theorem zcm{N:Nat}{f:form}{D n:Nat}{h:List UInt8}{l:UInt8}(hD:f.Digits=(D:Int))(hn:h.length=n)(hDn:D≤n)(hn2:n≤1000)(hh:∀c∈h,c.toNat≤9)(last:Int)(ok:Bool)(b1:digits):
  qo N 0 (n:Int) last ok f b1 (pdig h++[l])=some (digits.mk (decide (last=13)) ((pdig h).drop (n-D)),ok&&decide (val ((pdig h).take (n-D))=0)):=by
 have hp:(pdig h).length=n:=by unfold pdig;rw[List.length_map];exact hn
 unfold qo;have e1:(n:Int)-f.Digits=((n-D:Nat):Int):=by omega
 have es1:Vc.sub (pdig h++[l]) (0+0) ((0+0)+(((n-D:Nat):Int)-0))=(pdig h).take (n-D):=by unfold Vc.sub;rw[show((0:Int)+0).toNat=0 from rfl,List.drop_zero,show((0:Int)+0+(((n-D:Nat):Int)-0)).toNat=n-D by omega,List.take_append_of_le_length (by omega)]
 have es2:Vc.sub (pdig h++[l]) (0+((n-D:Nat):Int)) ((0+((n-D:Nat):Int))+((n:Int)-((n-D:Nat):Int)))=(pdig h).drop (n-D):=by unfold Vc.sub;rw[show((0:Int)+((n-D:Nat):Int)).toNat=n-D by omega,show(0+((n-D:Nat):Int)+((n:Int)-((n-D:Nat):Int))).toNat=n by omega,List.take_append_of_le_length (by omega),List.take_of_length_le (by omega)]
 obtain⟨t,t1,t2⟩:=zk6 (s:=(pdig h).take (n-D)) (by rw[List.length_take];omega) ((zcX hh).take _);rw[e1,zt (by omega) (by omega),za,decide_eq_true (show(0:Int)≤((n-D:Nat):Int)by omega),decide_eq_true (show((n-D:Nat):Int)≤(n:Int)by omega),decide_eq_true (show(n:Int)≤(n:Int)by omega),es1,es2,t1,zc];cases ok<;>simp[t2]
theorem Xt{N:Nat}{f:form}{D n:Nat}{h:List UInt8}{l:UInt8}(hD:f.Digits=(D:Int))(hn:h.length=n)(hDn:D≤n)(hn2:n≤1000)(hs:∀c∈h,c.toNat<16)(b1:digits):∀(k t:Nat),t≤n→n-t<k→
  (∀c∈h.take t,c.toNat≤9)→
  Zx N k 0 (n:Int) ((l.toNat:Nat):Int) (n:Int) (t:Int) f b1 (KV h t l)=
   some (if∀c∈h,c.toNat≤9 then(digits.mk (decide (l.toNat=13)) ((pdig h).drop (n-D)),decide (VJ f.Signed l∧val ((pdig h).take (n-D))=0))else(digits.mk false [],false))
 |0,t,_,hk,_=>by omega
 |k+1,t,ht,hk,hin=>by
  show J6 N (Zx N k) 0 (n:Int) ((l.toNat:Nat):Int) (n:Int) (t:Int) f b1 (KV h t l)=_;unfold J6;rw[zb];by_cases h1:t<n
  ·have hlen:=zma (h:=h) (t:=t) (l:=l) (by omega);have hv:=zn3 (h:=h) (t:=t) (l:=l) (by omega);have hm:h.getD t 0∈h:=zgt (by omega);have hsm:=hs _ hm;rw[if_pos (by omega),decide_eq_true (show(0:Int)≤(t:Int)by omega),decide_eq_true (show(t:Int)<(n:Int)by omega),Bool.and_self,za,show(0:Int)+(t:Int)=(t:Int)by omega,jt (by omega),za,z8,hv,zb];by_cases h2:9<(h.getD t 0).toNat
   ·rw[if_pos (by omega),if_neg (fun hall=>by have:=hall _ hm;omega)]
   ·have e:(((h.getD t 0).toNat:Nat):Int)+48=(((h.getD t 0).toNat+48:Nat):Int):=by omega
    have e2:h.take (t+1)=h.take t++[h.getD t 0]:=by rw[List.take_add_one,List.getElem?_eq_getElem (by omega),List.getD_eq_getElem?_getD,List.getElem?_eq_getElem (by omega)];rfl
    rw[if_neg (by omega),za,za,za,e,Zu (by omega) (by omega),Ws (by omega) (by omega),Bool.and_self,za,zt (by omega) (by omega),za,Int.toNat_natCast,zcJ,zl9 (by omega),
     show(t:Int)+1=((t+1:Nat):Int)by omega]
    refine Xt hD hn hDn hn2 hs b1 k (t+1) (by omega) (by omega) fun c hc=>?_
    rw[e2]at hc;rcases List.mem_append.1 hc with hc|hc
    ·exact hin c hc
    ·rw[List.mem_singleton.1 hc];omega
  ·have htn:t=n:=by omega
   subst htn;have hall:∀c∈h,c.toNat≤9:=by rw[←hn,List.take_length]at hin;exact hin
   rw[if_neg (by omega),if_pos hall];have ef:KV h t l=pdig h++[l]:=by rw[←hn];exact zkw
   rw[ef];simp only[zcm hD hn hDn hn2 hall];have h13:(((l.toNat:Nat):Int)=13)↔l.toNat=13:=by omega
   have h12:(((l.toNat:Nat):Int)=12)↔l.toNat=12:=by omega
   have h15:(((l.toNat:Nat):Int)=15)↔l.toNat=15:=by omega
   simp only[h13,h12,h15];unfold VJ;generalize val ((pdig h).take (t-D))=v;cases f.Signed with
   |true=>
    by_cases c1:l.toNat=12
    ·simp[c1]
    ·by_cases c2:l.toNat=13
     ·simp[c2]
     ·simp[c1,c2]
   |false=>
    by_cases c1:l.toNat=15
    ·simp[c1]
    ·simp[c1]
theorem Xu{N:Nat}(hN:3000<N){f:form}{D:Nat}{b:List UInt8}(hD:f.Digits=(D:Int))(hb:1≤b.length)(hDn:D≤2*b.length-1)(hb2:b.length≤300)(b1:digits):∀(k t:Nat),1≤t→t≤b.length→b.length-t<k→
  yK N k (.inr (b,(b.length:Int),(t:Int),f,b1,nib (b.take t)))=some (rP f.Signed D b)
 |0,t,_,_,hk=>by omega
 |k+1,t,h0,ht,hk=>by
  show Ji N (yK N k) b (b.length:Int) (t:Int) f b1 (nib (b.take t))=_;unfold Ji;rw[zb];by_cases h1:t<b.length
  ·have hln:(nib (b.take t)).length=2*t:=by rw[zaa,List.length_take];omega
   rw[if_pos (by omega),jt h1,za,z8,zlS,za,zjp,yD (by simp;omega),za,zt (by omega) (by omega),za,←zf1 h1,show(t:Int)+1=((t+1:Nat):Int)by omega];exact Xu hN hD hb hDn hb2 b1 k (t+1) (by omega) (by omega) (by omega)
  ·have htb:t=b.length:=by omega
   subst htb;rw[List.take_length];have hln:=zaa b;have e1:(((nib b).length:Nat):Int)-1=((2*b.length-1:Nat):Int):=by omega
   have hin:zu 0 ((2*b.length-1:Nat):Int) (nib b).length=true:=by unfold zu;simp<;>omega
   have hsp:nib b=KV ((nib b).take (2*b.length-1)) 0 ((nib b).getD (2*b.length-1) 0):=by unfold KV pdig;rw[List.take_zero,List.map_nil,List.nil_append,List.drop_zero];have:=List.take_append_drop (2*b.length-1) (nib b);rw[List.drop_eq_getElem_cons (by omega),List.drop_eq_nil_of_le (by omega)]at this;rw[List.getD_eq_getElem?_getD,List.getElem?_eq_getElem (by omega)];exact this.symm
   rw[if_neg (by omega),e1,zt (by omega) (by omega),za,jt (by omega),za,za,za,hin,za,z8,show((2*b.length-1:Nat):Int)-0=((2*b.length-1:Nat):Int)by omega];have:=Xt (N:=N) (f:=f) (D:=D) (n:=2*b.length-1) (h:=(nib b).take (2*b.length-1)) (l:=(nib b).getD (2*b.length-1) 0) hD (by rw[List.length_take];omega) hDn (by omega)
    (fun c hc=>zc1 b c (List.mem_of_mem_take hc)) b1 N 0 (by omega) (by omega) (by simp)
   rw[←hsp]at this;exact this
theorem zhn{N:Nat}(hN:3000<N){f:form}{D:Nat}{b:List UInt8}(hD:f.Digits=(D:Int))(hb:1≤b.length)(hDn:D≤2*b.length-1)(hb2:b.length≤300):Kp N f b=some (rP f.Signed D b):=by
 unfold Kp;obtain⟨M,rfl⟩:∃M,N=M+1:=⟨N-1,by omega⟩
 show Jj (M+1) (yK (M+1) M) b (b.length:Int) 0 f (digits.mk false [])=_;unfold Jj;have:=zf1 (b:=b) (i:=0) (by omega);rw[List.take_zero]at this;rw[zb,if_pos (by omega),show(0:Int)=((0:Nat):Int)from rfl,jt (by omega),za,z8,zlS,za,zjp,yD (by simp),za,zt (by omega) (by omega),za];have e0:([]:List UInt8)++[UInt8.ofNat ((b.getD 0 0).toNat/16),UInt8.ofNat ((b.getD 0 0).toNat%16)]=nib (b.take (0+1)):=this.symm;rw[e0,show((0:Nat):Int)+1=((0+1:Nat):Int)by omega];exact Xu hN hD hb hDn hb2 _ M (0+1) (by omega) (by omega) (by omega)
def pk(l:UInt8):List UInt8→List UInt8
 |[]=>[]
 |[a]=>[UInt8.ofNat (16*(a.toNat-48)+l.toNat)]
 |a::c::r=>UInt8.ofNat (16*(a.toNat-48)+(c.toNat-48))::pk l r
def odd(s:List UInt8):List UInt8:=if s.length%2=0 then 48::s else s
def wP(sg ng:Bool)(s:List UInt8):List UInt8:=pk (if sg then(if ng then 13 else 12)else 15) (odd s)
theorem zlH(l:UInt8):∀s,s.length%2=1→(pk l s).length=s.length/2+1
 |[],h=>by simp at h
 |[a],_=>by simp[pk]
 |a::c::r,h=>by simp only[List.length_cons]at h;rw[pk,List.length_cons,zlH l r (by omega),List.length_cons,List.length_cons];omega
theorem zlR{l:UInt8}(hl:l.toNat<16):∀s,s.length%2=1→Digs s→nib (pk l s)=(s.map fun c=>UInt8.ofNat (c.toNat-48))++[l]
 |[],h,_=>by simp at h
 |[a],_,hd=>by
  have ha:=(Digs.cons.1 hd).1;have e:(UInt8.ofNat (16*(a.toNat-48)+l.toNat)).toNat=16*(a.toNat-48)+l.toNat:=by rw[UInt8.toNat_ofNat'];omega
  rw[pk,nib,e,show(16*(a.toNat-48)+l.toNat)/16=a.toNat-48 by omega,show(16*(a.toNat-48)+l.toNat)%16=l.toNat by omega,UInt8.ofNat_toNat];rfl
 |a::c::r,h,hd=>by
  simp only[List.length_cons]at h;rw[Digs.cons,Digs.cons]at hd;obtain⟨ha,hc,hr⟩:=hd;have e:(UInt8.ofNat (16*(a.toNat-48)+(c.toNat-48))).toNat=16*(a.toNat-48)+(c.toNat-48):=by rw[UInt8.toNat_ofNat'];omega
  rw[pk,nib,e,show(16*(a.toNat-48)+(c.toNat-48))/16=a.toNat-48 by omega,show(16*(a.toNat-48)+(c.toNat-48))%16=c.toNat-48 by omega,zlR hl r (by omega) hr];rfl
theorem zjn(s:List UInt8):(odd s).length%2=1∧(odd s).length=2*(s.length/2)+1:=by
 unfold odd;split
 ·rw[List.length_cons];omega
 ·omega
theorem zlM{s:List UInt8}(h:Digs s):Digs (odd s):=by
 unfold odd;split
 ·exact Digs.cons.2 ⟨by decide,h⟩
 ·exact h
theorem zkZ{sg ng:Bool}{s:List UInt8}:(wP sg ng s).length=s.length/2+1:=by unfold wP;obtain⟨h1,h2⟩:=zjn s;rw[zlH _ _ h1,h2];omega
theorem zlI{s:List UInt8}(hd:Digs s):pdig (s.map fun c=>UInt8.ofNat (c.toNat-48))=s:=by
 unfold pdig;rw[List.map_map];conv=>rhs;rw[←List.map_id s]
 refine List.map_congr_left fun c hc=>?_
 have h:=hd c hc;show UInt8.ofNat ((UInt8.ofNat (c.toNat-48)).toNat+48)=c;apply UInt8.toNat_inj.1;rw[UInt8.toNat_ofNat',UInt8.toNat_ofNat'];omega
theorem zpU{sg ng:Bool}{n:Nat}{s:List UInt8}(hs:s.length=n)(hd:Digs s):rP sg n (wP sg ng s)=(digits.mk (sg&&ng) s,true):=by
 obtain⟨h1,h2⟩:=zjn s;have hod:=zlM hd;have hlen:=zkZ (sg:=sg) (ng:=ng) (s:=s);obtain⟨l,hl,hl16⟩:∃l:UInt8,l=(if sg then(if ng then 13 else 12)else 15)∧l.toNat<16:=⟨_,rfl,by cases sg<;>cases ng<;>decide⟩
 have hnib:nib (wP sg ng s)=((odd s).map fun c=>UInt8.ofNat (c.toNat-48))++[l]:=by unfold wP;rw[←hl];exact zlR hl16 _ h1 hod
 have hm:2*(wP sg ng s).length-1=(odd s).length:=by omega
 unfold rP;rw[hm,hnib];have e1:(((odd s).map fun c=>UInt8.ofNat (c.toNat-48))++[l]).take (odd s).length=(odd s).map fun c=>UInt8.ofNat (c.toNat-48):=by rw[List.take_append_of_le_length (by simp),List.take_of_length_le (by simp)]
 have e2:(((odd s).map fun c=>UInt8.ofNat (c.toNat-48))++[l]).getD (odd s).length 0=l:=by rw[List.getD_eq_getElem?_getD,List.getElem?_append_right (by simp)];simp
 rw[e1,e2,zlI hod];have hall:∀c∈(odd s).map fun c=>UInt8.ofNat (c.toNat-48),c.toNat≤9:=by intro x hx;obtain⟨c,hc,rfl⟩:=List.mem_map.1 hx;have:=hod c hc;rw[UInt8.toNat_ofNat'];omega
 rw[if_pos hall];have e3:(odd s).drop ((odd s).length-n)=s:=by
  unfold odd;split
  ·rw[List.length_cons,hs,show n+1-n=1 by omega,List.drop_one,List.tail_cons]
  ·rw[hs,Nat.sub_self,List.drop_zero]
 have e4:val ((odd s).take ((odd s).length-n))=0:=by
  unfold odd;split
  ·rw[List.length_cons,hs,show n+1-n=1 by omega];rfl
  ·rw[hs,Nat.sub_self,List.take_zero];rfl
 rw[e3,e4,hl];cases sg<;>cases ng<;>simp[VJ]<;>decide
end Go.Proofs.C06
end
section
set_option maxRecDepth 100000
namespace Go.Proofs.C06
open Go Go.RowKit Go.Vc Go.Am Go.Dg
def bev(l:List UInt8):Nat:=l.foldl (fun a c=>256*a+c.toNat) 0
theorem QI(l:List UInt8)(c:UInt8):bev (l++[c])=256*bev l+c.toNat:=by unfold bev;rw[List.foldl_append];rfl
theorem jL{b:List UInt8}{i:Nat}(h:i<b.length):b.take (i+1)=b.take i++[b.getD i 0]:=by rw[List.take_add_one,List.getElem?_eq_getElem h,List.getD_eq_getElem?_getD,List.getElem?_eq_getElem h];rfl
theorem ziR(b:List UInt8):∀n,n≤b.length→bev (b.take n)<256^n
 |0,_=>by simp[bev]
 |n+1,h=>by have ih:=ziR b n (by omega);have hc:=Wc (b.getD n 0);rw[jL (by omega),QI,Nat.pow_succ];omega
def be:Nat→Nat→List UInt8
 |0,_=>[]
 |k+1,v=>be k (v/256)++[UInt8.ofNat (v%256)]
theorem V2:∀k v,(be k v).length=k
 |0,_=>rfl
 |k+1,v=>by rw[be,List.length_append,V2 k];rfl
theorem zmM:∀k v,bev (be k v)=v%256^k
 |0,v=>by simp[be,bev,Nat.mod_one]
 |k+1,v=>by
  have e:(UInt8.ofNat (v%256)).toNat=v%256:=by rw[UInt8.toNat_ofNat'];omega
  rw[be,QI,zmM k,e,Nat.pow_succ,Nat.mul_comm (256^k) 256,Nat.mod_mul];omega
theorem zoK:∀(k v i:Nat),i<k→(be k v).getD i 0=UInt8.ofNat (v/256^(k-1-i)%256)
 |0,_,i,h=>by omega
 |k+1,v,i,h=>by
  rw[be];by_cases hi:i<k
  ·rw[List.getD_eq_getElem?_getD,List.getElem?_append_left (by rw[V2];exact hi),←List.getD_eq_getElem?_getD,zoK k _ i hi,Nat.div_div_eq_div_mul,←Nat.pow_succ',show(k-1-i).succ=k+1-1-i by omega]
  ·have:i=k:=by omega
   subst this;rw[List.getD_eq_getElem?_getD,List.getElem?_append_right (by rw[V2];omega),V2,Nat.sub_self,show i+1-1-i=0 by omega,Nat.pow_zero,Nat.div_one];rfl
theorem zdf:∀(t m:Nat),fmt (t+1) m=UInt8.ofNat (48+m/10^t%10)::fmt t m
 |0,m=>by simp[fmt]
 |t+1,m=>by rw[fmt,zdf t (m/10),List.cons_append,Nat.div_div_eq_div_mul,←Nat.pow_succ'];rfl
def rB(sg:Bool)(D:Nat)(b:List UInt8):digits×Bool:=(digits.mk (sg&&decide (128≤(b.getD 0 0).toNat)) (fmt D (if sg&&decide (128≤(b.getD 0 0).toNat)then 256^b.length-bev b else bev b)),decide ((if sg&&decide (128≤(b.getD 0 0).toNat)then 256^b.length-bev b else bev b)<10^D))
theorem Xv{N:Nat}{D m:Nat}(hD:D≤100)(hm:m<18446744073709551616)(ng:Bool)(b0:digits):∀(k t:Nat),t≤D→D-t<k→
  Zy N k ((m/10^t:Nat):Int) ng (fmt t m) (D:Int) (t:Int) b0=some (digits.mk ng (fmt D m),decide (m<10^D))
 |0,t,_,hk=>by omega
 |k+1,t,ht,hk=>by
  show J7 N (Zy N k) ((m/10^t:Nat):Int) ng (fmt t m) (D:Int) (t:Int) b0=_;unfold J7;rw[zb];have hle:m/10^t≤m:=Nat.div_le_self _ _;by_cases h1:t<D
  ·have e0:(zE ((m/10^t:Nat):Int)&&decide (0<10))=true:=by unfold zE;rw[decide_eq_true (Int.natCast_nonneg _)];rfl
   have e1:((m/10^t:Nat):Int)%10=((m/10^t%10:Nat):Int):=by omega
   have e2:((m/10^t:Nat):Int)/10=((m/10^(t+1):Nat):Int):=by rw[Nat.pow_succ,←Nat.div_div_eq_div_mul];omega
   have hlt:m/10^t%10<10:=Nat.mod_lt _ (by decide);have hw:IntKind.wrap .u64 (((m/10^t%10:Nat):Int)+1)=((m/10^t%10:Nat):Int)+1:=by rw[wrap_u64];omega
   have hsub:Vc.sub ([48,49,50,51,52,53,54,55,56,57]:List UInt8) ((m/10^t%10:Nat):Int) (((m/10^t%10:Nat):Int)+1)=[UInt8.ofNat (48+m/10^t%10)]:=by
    have:∀q:Fin 10,Vc.sub ([48,49,50,51,52,53,54,55,56,57]:List UInt8) ((q.val:Nat):Int) (((q.val:Nat):Int)+1)=[UInt8.ofNat (48+q.val)]:=by decide
    exact this ⟨m/10^t%10,hlt⟩
   have hin:zu ((m/10^t%10:Nat):Int) (((m/10^t%10:Nat):Int)+1) ([48,49,50,51,52,53,54,55,56,57]:List UInt8).length=true:=by unfold zu;simp<;>omega
   have hu:zd .u64 ((m/10^(t+1):Nat):Int)=true:=yC.2 ⟨Int.natCast_nonneg _,by
    show _≤(18446744073709551615:Int);have h:=Nat.div_le_self m (10^(t+1));generalize m/10^(t+1)=q at h⊢;omega⟩
   have e3:[UInt8.ofNat (48+m/10^t%10)]++fmt t m=fmt (t+1) m:=(zdf t m).symm;rw[if_pos (by omega),e0,za,za,e1,hw,hin,za,hsub,yH (by rw[yM];simp;omega),za,Bool.true_and,e2,hu,za,zt (by omega) (by omega),za,e3,show(t:Int)+1=((t+1:Nat):Int)by omega];exact Xv hD hm ng b0 k (t+1) (by omega) (by omega)
  ·have htD:t=D:=by omega
   subst htD;rw[if_neg (by omega)];congr 2;rw[decide_eq_decide];have hp:=pow_pos t;constructor
   ·intro h;have h:m/10^t=0:=by omega
    rcases Nat.div_eq_zero_iff.1 h with h|h
    ·omega
    ·exact h
   ·intro h;rw[Nat.div_eq_of_lt h];rfl
theorem qH{N:Nat}(hN:3000<N){f:form}{D m:Nat}(hfD:f.Digits=(D:Int))(hD:D≤100)(hm:m<18446744073709551616)(ng:Bool)(b0:digits):qp N (m:Int) ng f b0=some (digits.mk ng (fmt D m),decide (m<10^D)):=by unfold qp;rw[hfD];have:=Xv (N:=N) hD hm ng b0 N 0 (by omega) (by omega);rw[Nat.pow_zero,Nat.div_one]at this;exact this
theorem zft{b:List UInt8}(h:1≤b.length):∀n,1≤n→n≤b.length→bev (b.take n)/256^(n-1)=(b.getD 0 0).toNat
 |0,h0,_=>by omega
 |1,_,_=>by rw[jL (by omega),List.take_zero,QI];simp[bev]
 |n+2,_,hn=>by have ih:=zft h (n+1) (by omega) (by omega);have hc:=Wc (b.getD (n+1) 0);rw[jL (by omega),QI,show n+2-1=(n+1-1)+1 by omega,Nat.pow_succ',←Nat.div_div_eq_div_mul,show(256*bev (b.take (n+1))+(b.getD (n+1) 0).toNat)/256=bev (b.take (n+1))by omega];exact ih
theorem Xw{N:Nat}(hN:3000<N){f:form}{D:Nat}{b:List UInt8}(hfD:f.Digits=(D:Int))(hD:D≤100)(hb:b.length=2∨b.length=4∨b.length=8)(d:digits):∀(k t:Nat),t≤b.length→b.length-t<k→
  Zz N k b ((bev (b.take t):Nat):Int) b (b.length:Int) (t:Int) f d=some (rB f.Signed D b)
 |0,t,_,hk=>by omega
 |k+1,t,ht,hk=>by
  show J8 N (Zz N k) b ((bev (b.take t):Nat):Int) b (b.length:Int) (t:Int) f d=_;unfold J8;rw[zb];by_cases h1:t<b.length
  ·have hlt:=ziR b t (by omega);have hlt7:bev (b.take t)<72057594037927936:=Nat.lt_of_lt_of_le hlt (by have:=Nat.pow_le_pow_right (show 0<256 by decide) (show t≤7 by omega);simpa using this);have hc:=Wc (b.getD t 0);have e1:((bev (b.take t):Nat):Int)*2^(Int.toNat 8)=((256*bev (b.take t):Nat):Int):=by show((bev (b.take t):Nat):Int)*256=_;omega
   have e2:bits .or .u64 (IntKind.wrap .u64 (((bev (b.take t):Nat):Int)*2^(Int.toNat 8))) (IntKind.wrap .u64 (((b.getD t 0).toNat:Nat):Int))=((bev (b.take (t+1)):Nat):Int):=by rw[e1,wrap_u64,wrap_u64,zpi (by omega) (by omega) (by omega),jL h1,QI];omega
   rw[if_pos (by omega),jt h1,za,zt (by omega) (by omega),za,z8,e2,show(t:Int)+1=((t+1:Nat):Int)by omega];exact Xw hN hfD hD hb d k (t+1) (by omega) (by omega)
  ·have htb:t=b.length:=by omega
   subst htb;have hlt:=ziR b b.length (Nat.le_refl _);have htop:=zft (b:=b) (by omega) b.length (by omega) (Nat.le_refl _);rw[List.take_length]at hlt htop⊢;rw[if_neg (by omega),jt (show 0<b.length by omega)|>fun h=>(show zn 0 b.length=true from h),za];have eb:byteAt b 0=(((b.getD 0 0).toNat:Nat):Int):=rfl;have e128:((128:Int)≤(((b.getD 0 0).toNat:Nat):Int))↔128≤(b.getD 0 0).toNat:=by omega
   have hno:∀ng,ng=false→qq N b ((bev b:Nat):Int) ng f d=some (digits.mk false (fmt D (bev b)),decide (bev b<10^D)):=by rintro _ rfl;unfold qq;rw[cond_false];refine qH hN hfD hD ?_ _ _;rcases hb with h|h|h<;>rw[h]at hlt<;>omega
   unfold rB;cases f.Signed with
   |false=>rw[cond_false,hno _ rfl];simp
   |true=>
    rw[cond_true,eb];by_cases hg:128≤(b.getD 0 0).toNat
    ·rw[decide_eq_true (e128.2 hg),decide_eq_true hg];simp only[Bool.and_self,if_true];unfold qq;rw[cond_true,zb];rcases hb with h|h|h
     ·rw[h]at hlt htop⊢;have w1:IntKind.wrap .u64 (-((bev b:Nat):Int))=18446744073709551616-((bev b:Nat):Int):=by rw[wrap_u64];omega
      have w2:IntKind.wrap .u64 (IntKind.wrap .u64 (1*2^(8*((2:Nat):Int)).toNat)-1)=((2^16-1:Nat):Int):=by decide
      have w3:bits .and .u64 (18446744073709551616-((bev b:Nat):Int)) ((2^16-1:Nat):Int)=((256^2-bev b:Nat):Int):=by rw[Zk (by decide),wrap_u64];omega
      rw[if_pos (by decide),zt (by decide) (by decide),za,show(zE (8*((2:Nat):Int))&&Nat.ble (8*((2:Nat):Int)).toNat 64)=true by decide,za,w1,w2,w3];exact qH hN hfD hD (by omega) _ _
     ·rw[h]at hlt htop⊢;have w1:IntKind.wrap .u64 (-((bev b:Nat):Int))=18446744073709551616-((bev b:Nat):Int):=by rw[wrap_u64];omega
      have w2:IntKind.wrap .u64 (IntKind.wrap .u64 (1*2^(8*((4:Nat):Int)).toNat)-1)=((2^32-1:Nat):Int):=by decide
      have w3:bits .and .u64 (18446744073709551616-((bev b:Nat):Int)) ((2^32-1:Nat):Int)=((256^4-bev b:Nat):Int):=by rw[Zk (by decide),wrap_u64];omega
      rw[if_pos (by decide),zt (by decide) (by decide),za,show(zE (8*((4:Nat):Int))&&Nat.ble (8*((4:Nat):Int)).toNat 64)=true by decide,za,w1,w2,w3];exact qH hN hfD hD (by omega) _ _
     ·rw[h]at hlt htop⊢;have w1:IntKind.wrap .u64 (-((bev b:Nat):Int))=((256^8-bev b:Nat):Int):=by rw[wrap_u64];omega
      rw[if_neg (by decide),w1];exact qH hN hfD hD (by omega) _ _
    ·rw[decide_eq_false (fun h=>hg (e128.1 h)),decide_eq_false hg,hno _ rfl];simp
theorem zho{N:Nat}(hN:3000<N){f:form}{D:Nat}{b:List UInt8}(hfD:f.Digits=(D:Int))(hD:D≤100)(hb:b.length=2∨b.length=4∨b.length=8):Kq N f b=some (rB f.Signed D b):=by unfold Kq;exact Xw hN hfD hD hb _ N 0 (by omega) (by omega)
def wB(k:Nat)(ng:Bool)(s:List UInt8):List UInt8:=be k (if ng then(18446744073709551616-val s)%18446744073709551616 else val s)
theorem zoP{k:Nat}{ng:Bool}{s:List UInt8}:(wB k ng s).length=k:=V2 _ _
def binW(n:Nat):Nat:=if n≤4 then 2 else if n≤9 then 4 else 8
theorem zpV{sg ng:Bool}{n:Nat}{s:List UInt8}(hn:n≤18)(hs:s.length=n)(hd:Digs s)(hsg:ng=true→sg=true∧val s≠0):rB sg n (wB (binW n) ng s)=(digits.mk ng s,true):=by
 have hv:=yx hd;rw[hs]at hv;have hf:fmt n (val s)=s:=by rw[←hs];exact zjw hd
 have hbound:binW n=2∧val s<10000∨binW n=4∧val s<1000000000∨binW n=8∧val s<1000000000000000000:=by
  unfold binW;have hle:∀m,n≤m→val s<10^m:=fun m hm=>Nat.lt_of_lt_of_le hv (Nat.pow_le_pow_right (by decide) hm)
  by_cases h4:n≤4
  ·rw[if_pos h4];exact .inl ⟨rfl,by simpa using hle 4 h4⟩
  ·rw[if_neg h4];by_cases h9:n≤9
   ·rw[if_pos h9];exact .inr (.inl ⟨rfl,by simpa using hle 9 h9⟩)
   ·rw[if_neg h9];exact .inr (.inr ⟨rfl,by simpa using hle 18 hn⟩)
 have key:∀(k x:Nat),1≤k→(be k x).getD 0 0=UInt8.ofNat (x/256^(k-1)%256):=fun k x h=>zoK k x 0 (by omega)
 have kb:∀(k x:Nat),1≤k→((be k x).getD 0 0).toNat=x/256^(k-1)%256:=fun k x h=>by rw[key k x h,UInt8.toNat_ofNat'];omega
 unfold rB wB;rw[zmM,V2];cases ng with
 |false=>
  have h0:¬128≤((be (binW n) (val s)).getD 0 0).toNat:=by rcases hbound with⟨hk,hb⟩|⟨hk,hb⟩|⟨hk,hb⟩<;>rw[hk,kb _ _ (by decide)]<;>simp<;>omega
  have h1:val s%256^binW n=val s:=Nat.mod_eq_of_lt (by rcases hbound with⟨hk,hb⟩|⟨hk,hb⟩|⟨hk,hb⟩<;>rw[hk]<;>omega);simp only[Bool.false_eq_true,if_false,decide_eq_false h0,Bool.and_false,h1,hf,decide_eq_true hv]
 |true=>
  obtain⟨rfl,h00⟩:=hsg rfl;have hx:(18446744073709551616-val s)%18446744073709551616=18446744073709551616-val s:=by rcases hbound with⟨hk,hb⟩|⟨hk,hb⟩|⟨hk,hb⟩<;>omega
  have h0:128≤((be (binW n) (18446744073709551616-val s)).getD 0 0).toNat:=by rcases hbound with⟨hk,hb⟩|⟨hk,hb⟩|⟨hk,hb⟩<;>rw[hk,kb _ _ (by decide)]<;>simp<;>omega
  have h1:256^binW n-(18446744073709551616-val s)%256^binW n=val s:=by rcases hbound with⟨hk,hb⟩|⟨hk,hb⟩|⟨hk,hb⟩<;>rw[hk]<;>omega
  simp only[if_true,hx,decide_eq_true h0,Bool.and_self,h1,hf,decide_eq_true hv]
end Go.Proofs.C06
end
section
set_option maxRecDepth 100000
namespace Go.Proofs.C06
open Go Go.RowKit Go.Vc Go.Am Go.Dg
end Go.Proofs.C06
end
section
set_option maxRecDepth 100000
namespace Go.Proofs.C06
open Go Go.RowKit Go.Vc Go.Am Go.Dg
end Go.Proofs.C06
end
section
set_option maxRecDepth 100000
namespace Go.Proofs.C06
open Go Go.RowKit Go.Vc Go.Am Go.Dg
end Go.Proofs.C06
end
