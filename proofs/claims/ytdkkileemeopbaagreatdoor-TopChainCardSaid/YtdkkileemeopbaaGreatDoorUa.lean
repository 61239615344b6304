/-
  A part of the proof of the laws.
-/
import Derived.Lib.SlTrimSet
import Derived.Lib.Strings
import Derived.Test.YtdkkileemeopbaaGreatDoorS2
import Derived.Test.YtdkkileemeopbaaGreatDoorPa
import Derived.Laws.Entries
import Derived.Test.YtdkkileemeopbaaGreatDoorS4
section
namespace Go.Dg
def Digs(l:uBp):Prop:=∀c∈l,48<=c.toNat/\c.toNat<=57
instance(l:uBp):Decidable (Digs l):=by unfold Digs;infer_instance
theorem Digs.nil:Digs []:=by simp[Digs]
theorem Digs.cons{c:UInt8}{l:uBp}:Digs (c::l)↔(48<=c.toNat/\c.toNat<=57)/\Digs l:=by simp[Digs]
theorem Digs.append{a b:uBp}:Digs (a++b)↔Digs a/\Digs b:=by
 unfold Digs;constructor
 ·intro h;exact⟨fun c hc=>h c (uAj _ hc),fun c hc=>h c (uAW _ hc)⟩
 ·rintro⟨h1,h2⟩ c hc;rcases mO.1 hc with h|h
  ·exact h1 c h
  ·exact h2 c h
theorem Digs.take{l:uBp}(h:Digs l)(n:Nat):Digs (l.take n):=fun c hc=>h c (uBb hc)
theorem Digs.drop{l:uBp}(h:Digs l)(n:Nat):Digs (l.drop n):=fun c hc=>h c (uBl hc)
theorem Digs.zeros(n:Nat):Digs (List.replicate n 48):=fun c hc=>by rw[(List.mem_replicate.1 hc).2];decide
def val(l:uBp):Nat:=l.foldl (fun a c=>10*a+(c.toNat-48)) 0
theorem Wb:∀(l:uBp)(a:Nat),l.foldl (fun a c=>10*a+(c.toNat-48)) a=a*10^l.length+val l
 |[],a=>by simp[val]
 |c::l,a=>by
  have h1:=Wb l (10*a+(c.toNat-48));have h2:=Wb l (10*0+(c.toNat-48));have h3:val (c::l)=l.foldl (fun a c=>10*a+(c.toNat-48)) (10*0+(c.toNat-48)):=rfl;rw[List.foldl_cons,h1,h3,h2,mI,uAL,uAH,uAH];have e:10*a*10^l.length=a*(10^l.length*10):=by rw[uA7 10 a,nL,uA7 10]
  omega
theorem zix:val []=0:=rfl
theorem qG(c:UInt8)(l:uBp):val (c::l)=(c.toNat-48)*10^l.length+val l:=by have:=Wb l (10*0+(c.toNat-48));have h3:val (c::l)=l.foldl (fun a c=>10*a+(c.toNat-48)) (10*0+(c.toNat-48)):=rfl;rw[h3,this,Nat.mul_zero,uAE]
theorem QW(a b:uBp):val (a++b)=val a*10^b.length+val b:=by
 have:val (a++b)=b.foldl (fun a c=>10*a+(c.toNat-48)) (val a):=by unfold val;rw[List.foldl_append]
 rw[this,Wb]
theorem Jy(l:uBp)(c:UInt8):val (l++[c])=10*val l+(c.toNat-48):=by rw[QW,qG,zix];simp;omega
theorem pow_pos(n:Nat):0<10^n:=Nat.pow_pos (by decide)
theorem j9:∀{l:uBp},Digs l->val l<10^l.length
 |[],_=>by simp[val]
 |c::l,h=>by rw[Digs.cons]at h;have ih:=j9 h.2;rw[qG,mI,uAL];have:(c.toNat-48)*10^l.length<=9*10^l.length:=nQ _ (by omega);omega
theorem Zb:∀n,val (List.replicate n 48)=0
 |0=>rfl
 |n+1=>by rw[nM,qG,Zb n];simp
theorem Y2(n:Nat)(l:uBp):val (List.replicate n 48++l)=val l:=by rw[QW,Zb];simp
theorem yG(l:uBp)(n:Nat):val (l++List.replicate n 48)=val l*10^n:=by rw[QW,Zb,mN];simp
theorem zeM{l:uBp}(h:Digs l)(h0:val l=0):∀c∈l,c=48:=by
 induction l with
 |nil=>simp
 |cons c l ih=>
  rw[Digs.cons]at h;rw[qG]at h0;have hp:=pow_pos l.length;have h1:(c.toNat-48)*10^l.length=0:=by omega
  have h2:c.toNat-48=0:=by
   rcases Nat.mul_eq_zero.1 h1 with h|h
   ·exact h
   ·omega
  intro x hx;rcases mU.1 hx with rfl|hx
  ·apply UInt8.toNat_inj.1;show x.toNat=48;omega
  ·exact ih h.2 (by omega) x hx
theorem zrG{l:uBp}(h:∀c∈l,c=48):val l=0:=by rw[List.eq_replicate_of_mem h,Zb]
theorem zr3{a b x y P:Nat}(hx:x<P)(hy:y<P)(h:a*P+x=b*P+y):a=b/\x=y:=by
 have h1:a=b:=by
  rcases Nat.lt_trichotomy a b with h'|h'|h'
  ·have:=nQ P (show a+1<=b from h');rw[uAm]at this;omega
  ·exact h'
  ·have:=nQ P (show b+1<=a from h');rw[uAm]at this;omega
 subst h1;exact⟨rfl,by omega⟩
theorem ziy:∀{a b:uBp},Digs a->Digs b->a.length=b.length->val a=val b->a=b
 |[],[],_,_,_,_=>rfl
 |[],_::_,_,_,h,_=>by simp at h
 |_::_,[],_,_,h,_=>by simp at h
 |x::a,y::b,ha,hb,hl,h=>by
  rw[Digs.cons]at ha hb;simp only[mI,Nat.add_right_cancel_iff]at hl;rw[qG,qG,hl]at h;have h1:=j9 ha.2;rw[hl]at h1;obtain⟨e1,e2⟩:=zr3 h1 (j9 hb.2) h;rw[ziy ha.2 hb.2 hl e2];have:x.toNat=y.toNat:=by omega
  rw[UInt8.toNat_inj.1 this]
theorem jD{l:uBp}(h:Digs l){m:Nat}(hm:m<=l.length):val (l.take (l.length-m))=val l/10^m/\val (l.drop (l.length-m))=val l%10^m:=by
 have e:val l=val (l.take (l.length-m))*10^m+val (l.drop (l.length-m)):=by have:=QW (l.take (l.length-m)) (l.drop (l.length-m));rw[mT,mJ]at this;rw[this];congr 3;omega
 have hlt:val (l.drop (l.length-m))<10^m:=by have:=j9 (h.drop (l.length-m));rw[mJ]at this;rwa [show l.length-(l.length-m)=m by omega]at this
 have hp:=pow_pos m;constructor
 ·rw[e,uA7,Nat.mul_add_div hp,uA6 hlt,uAf]
 ·rw[e,uA7,Nat.mul_add_mod,uAn hlt]
def fmt:Nat->Nat->uBp
 |0,_=>[]
 |n+1,v=>fmt n (v/10)++[UInt8.ofNat (48+v%10)]
theorem zW:∀n v,(fmt n v).length=n
 |0,_=>rfl
 |n+1,v=>by rw[fmt,mM,zW n];rfl
theorem zcL{d:Nat}(h:d<10):(UInt8.ofNat (48+d)).toNat=48+d:=by rw[UInt8.toNat_ofNat'];omega
theorem jQ:∀n v,Digs (fmt n v)
 |0,_=>Digs.nil
 |n+1,v=>by rw[fmt,Digs.append,Digs.cons];refine⟨jQ n _,?_,Digs.nil⟩;rw[zcL (uBa _ (by decide))];omega
theorem Z1:∀n v,v<10^n->val (fmt n v)=v
 |0,v,h=>by
  have:v=0:=by simpa using h
  rw[this];rfl
 |n+1,v,h=>by rw[fmt,Jy,Z1 n (v/10) (by rw[uAL]at h;omega),zcL (uBa _ (by decide))];omega
theorem zpD{l:uBp}(h:Digs l):fmt l.length (val l)=l:=
 ziy (jQ _ _) h (zW _ _) (Z1 _ _ (j9 h))
theorem zwL{l:uBp}{n v:Nat}(h:Digs l)(hl:l.length=n)(hv:val l=v):l=fmt n v:=by subst hl hv;exact (zpD h).symm
def tz(l:uBp):uBp:=l.dropWhile (· ==48)
theorem zd9(c:UInt8)(l:uBp):tz (c::l)=if c=48 then tz l else c::l:=by unfold tz;rw[List.dropWhile_cons];by_cases h:c=48<;>simp[h]
theorem zui(l:uBp):Lib.trimLeftS l [48]=tz l:=by unfold Lib.trimLeftS tz;congr 1;funext c;by_cases h:c=48<;>simp[h]
theorem Kf:∀l,val (tz l)=val l
 |[]=>rfl
 |c::l=>by
  rw[zd9];split
  ·rename_i h;subst h;rw[Kf l,qG];simp
  ·rfl
theorem Digs.tz{l:uBp}(h:Digs l):Digs (tz l):=fun c hc=>h c ((uBe _).subset hc)
theorem zv8(l:uBp):(tz l).length<=l.length:=(uBe _).length_le
theorem zd8{l:uBp}{c:UInt8}{r:uBp}(h:tz l=c::r):c≠48:=by
 induction l with
 |nil=>cases h
 |cons x l ih=>
  rw[zd9]at h;split at h
  ·exact ih h
  ·rename_i hx;cases h;exact hx
theorem W6{l:uBp}(h:Digs l):tz l=[]↔val l=0:=by
 constructor
 ·intro e;rw[<-Kf,e];rfl
 ·intro e;rcases hl:tz l with _|⟨c,r⟩
  ·rfl
  ·have:=zeM h.tz (by rw[Kf];exact e) c (by rw[hl];simp);exact absurd this (zd8 hl)
theorem zb9{l:uBp}(h:Digs l)(h0:val l≠0):10^((tz l).length-1)<=val l/\val l<10^(tz l).length/\1<=(tz l).length:=by
 have hd:=h.tz;have e:=Kf l;rcases hl:tz l with _|⟨c,r⟩
 ·exact absurd ((W6 h).1 hl) h0
 ·have hc:=zd8 hl;rw[hl]at hd e;refine⟨?_,by rw[<-e];exact j9 hd,by simp⟩;rw[<-e,qG,mI,Nat.add_sub_cancel];rw[Digs.cons]at hd;have h1:1<=c.toNat-48:=by
   have:c.toNat≠48:=fun h=>hc (UInt8.toNat_inj.1 h)
   omega
  have:=nQ (10^r.length) h1;omega
theorem zxf{a b:uBp}(ha:Digs a)(hb:Digs b)(h:val a=val b):tz a=tz b:=by
 by_cases h0:val a=0
 ·rw[(W6 ha).2 h0,(W6 hb).2 (h▸h0)]
 ·obtain⟨a1,a2,a3⟩:=zb9 ha h0;obtain⟨b1,b2,b3⟩:=zb9 hb (h▸h0);refine ziy ha.tz hb.tz ?_ (by rw[Kf,Kf,h]);rcases Nat.lt_trichotomy (tz a).length (tz b).length with hl|hl|hl
  ·have:=nR (show 0<10 by decide) (show(tz a).length<=(tz b).length-1 by omega);omega
  ·exact hl
  ·have:=nR (show 0<10 by decide) (show(tz b).length<=(tz a).length-1 by omega);omega
def dstr(v:Nat):uBp:=tz (fmt v v)
theorem KF(v:Nat):v<10^v:=Nat.lt_pow_self (by decide)
theorem QI(v:Nat):Digs (dstr v):=(jQ v v).tz
theorem Jz(v:Nat):val (dstr v)=v:=by unfold dstr;rw[Kf,Z1 v v (KF v)]
theorem zmd{l:uBp}(h:Digs l):dstr (val l)=tz l:=
 zxf (jQ _ _) h (Z1 _ _ (KF _))
theorem ziI(v:Nat):tz (dstr v)=dstr v:=by have:=zmd (QI v);rw[Jz]at this;exact this.symm
theorem zf6{v:Nat}:dstr v=[]↔v=0:=by rw[<-ziI,W6 (QI v),Jz]
theorem zjW{l:uBp}(h:Digs l)(h0:∀c r,l=c::r->c≠48):dstr (val l)=l:=by
 rw[zmd h];cases l with
 |nil=>rfl
 |cons c r=>rw[zd9,if_neg (h0 c r rfl)]
theorem zmf{v:Nat}(h:v≠0):10^((dstr v).length-1)<=v/\v<10^(dstr v).length/\1<=(dstr v).length:=by have:=zb9 (QI v) (by rw[Jz];exact h);rwa [Jz,ziI]at this
theorem zme{v n:Nat}(h:v<10^n):(dstr v).length<=n:=by
 by_cases h0:v=0
 ·subst h0;rw[zf6.2 rfl];simp
 ·obtain⟨h1,_,h3⟩:=zmf h0;rcases uAS n (dstr v).length with hl|hl
  ·have:=nR (show 0<10 by decide) (show n<=(dstr v).length-1 by omega);omega
  ·exact hl
end Go.Dg
end
section
namespace Go.Dg
def zK:Nat->Nat->Nat×Nat
 |0,v=>(v,0)
 |s+1,v=>if v%10=0 then zK s (v/10)else(v,s+1)
theorem ql:∀(s v:Nat),v=(zK s v).1*10^(s-(zK s v).2)/\(zK s v).2<=s/\((zK s v).2=0\/(zK s v).1%10≠0)
 |0,v=>⟨by simp[zK],mG _,.inl rfl⟩
 |s+1,v=>by
  by_cases h:v%10=0
  ·have e:zK (s+1) v=zK s (v/10):=by rw[zK,if_pos h]
   obtain⟨h1,h2,h3⟩:=ql s (v/10);rw[e];refine⟨?_,by omega,h3⟩;rw[show s+1-(zK s (v/10)).2=(s-(zK s (v/10)).2)+1 by omega,uAL,<-nL,<-h1];omega
  ·have e:zK (s+1) v=(v,s+1):=by rw[zK,if_neg h]
   rw[e];exact⟨by simp,mG _,.inr h⟩
theorem zkO{s v:Nat}(h:v≠0):(zK s v).1≠0:=fun e=>by have:=(ql s v).1;rw[e]at this;simp at this;exact h this
def canon(neg:Bool)(v s:Nat):Bool×uBp×Nat:=if v=0 then(false,[48],0)else(neg,dstr (zK s v).1,(zK s v).2)
theorem jy(neg:Bool)(s:Nat):canon neg 0 s=(false,[48],0):=by unfold canon;rw[if_pos rfl]
theorem zmu(neg:Bool)(v s:Nat):canon neg (v*10) (s+1)=canon neg v s:=by
 unfold canon;by_cases h:v=0
 ·subst h;rfl
 ·rw[if_neg (by omega),if_neg h];have e:zK (s+1) (v*10)=zK s v:=by rw[zK,if_pos (by omega),Nat.mul_div_cancel _ (by decide)]
  rw[e]
theorem zcS(neg:Bool)(v s:Nat):∀k,canon neg (v*10^k) (s+k)=canon neg v s
 |0=>by simp
 |k+1=>by rw[uAL,<-nL,<-Nat.add_assoc,zmu,zcS neg v s k]
theorem ztP{neg:Bool}{v s v' s':Nat}(h:v*10^s'=v'*10^s):canon neg v s=canon neg v' s':=by rw[<-zcS neg v s s',h,uAq,zcS]
theorem zig{neg neg':Bool}{v s:Nat}(h:v≠0->neg=neg'):canon neg v s=canon neg' v s:=by
 by_cases h0:v=0
 ·subst h0;rw[jy,jy]
 ·rw[h h0]
theorem zcR(neg:Bool)(v s:Nat):val (canon neg v s).2.1*10^s=v*10^(canon neg v s).2.2:=by
 unfold canon;split
 ·rename_i h;subst h;simp[val]
 ·obtain⟨h1,h2,_⟩:=ql s v;dsimp only;rw[Jz];have:10^s=10^(s-(zK s v).2)*10^(zK s v).2:=by rw[<-uAu];congr 1;omega
  rw[this,<-nL,<-h1]
theorem zY(neg:Bool)(v s:Nat):(canon neg v s).2.2<=s:=by
 unfold canon;split
 ·exact uAN _
 ·exact (ql s v).2.1
theorem zow(neg:Bool)(v s:Nat):Digs (canon neg v s).2.1:=by
 unfold canon;split
 ·decide
 ·exact QI _
theorem ztO(neg:Bool)(v s:Nat):(canon neg v s).2.1≠[]:=by
 unfold canon;split
 ·simp
 ·rename_i h;rw[Ne,zf6];exact zkO h
theorem zgf(neg:Bool)(v s:Nat):val (canon neg v s).2.1=0↔v=0:=by
 have h:=zcR neg v s;have p1:=pow_pos s;have p2:=pow_pos (canon neg v s).2.2;constructor
 ·intro e;rw[e,uAR]at h;rcases Nat.mul_eq_zero.1 h.symm with h|h
  ·exact h
  ·omega
 ·intro e;subst e;rw[jy];rfl
theorem zgg(neg:Bool)(v s:Nat):(canon neg v s).1=(neg&&decide (v≠0)):=by
 unfold canon;split
 ·rename_i h;simp[h]
 ·rename_i h;simp[h]
theorem zqk{s v:Nat}(h:s=0\/v%10≠0):zK s v=(v,s):=by
 cases s with
 |zero=>rfl
 |succ s=>rw[zK,if_neg (by rcases h with h|h;cases h;exact h)]
theorem zmv(neg:Bool)(v s:Nat):canon (canon neg v s).1 (val (canon neg v s).2.1) (canon neg v s).2.2=canon neg v s:=by
 by_cases h0:v=0
 ·subst h0;rw[jy];rfl
 ·have e:canon neg v s=(neg,dstr (zK s v).1,(zK s v).2):=by unfold canon;rw[if_neg h0]
  obtain⟨_,_,h3⟩:=ql s v;rw[e];dsimp only;rw[Jz];unfold canon;rw[if_neg (zkO h0),zqk h3]
end Go.Dg
end
section
set_option maxRecDepth 100000
namespace Go.Proofs.C06
open Go Go.RowKit Go.Vc Go.Am Go.Dg
theorem jc{a b:uBp}(h:a.length+b.length<=1000000):jh a b=true:=by rw[QN];omega
theorem Vf{p:UInt8->Bool}:∀{l:uBp}{c:UInt8}{r:uBp},l.dropWhile p=c::r->p c=false
 |[],_,_,h=>by cases h
 |x::l,c,r,h=>by
  rw[List.dropWhile_cons]at h;split at h
  ·exact Vf h
  ·rename_i hx;cases h;simpa using hx
theorem YW{p:UInt8->Bool}:∀{l:uBp},l.dropWhile p=[]↔∀c∈l,p c=true
 |[]=>by simp
 |x::l=>by
  rw[List.dropWhile_cons];split
  ·rename_i h;rw[YW];simp[h]
  ·rename_i h;simp[h]
theorem zca(s cs:uBp):Lib.trimS s cs=[]↔∀c∈s,cs.contains c=true:=by
 unfold Lib.trimS Lib.trimLeftS Lib.trimRightS;rw[YW];constructor
 ·intro h;have h2:s.reverse.dropWhile (cs.contains ·)=[]:=by
   rcases hr:s.reverse.dropWhile (cs.contains ·)with _|⟨c,r⟩
   ·rfl
   ·have h1:=Vf hr;have:=h c (by rw[hr];simp);rw[this]at h1;cases h1
  rw[YW]at h2;exact fun c hc=>h2 c (by simpa using hc)
 ·intro h c hc;have hc:c∈s.reverse.dropWhile (cs.contains ·):=by simpa using hc
  have:=(uBe _).subset hc;exact h c (by simpa using this)
theorem Wi(c:UInt8):([48,49,50,51,52,53,54,55,56,57]:uBp).contains c=true↔48<=c.toNat/\c.toNat<=57:=by
 constructor
 ·intro h;simp only[uAa,uBo,uAV,nP,beq_iff_eq]at h;rcases h with rfl|rfl|rfl|rfl|rfl|rfl|rfl|rfl|rfl|rfl<;>decide
 ·rintro⟨h1,h2⟩;have:∀m:Fin 256,48<=m.val->m.val<=57->([48,49,50,51,52,53,54,55,56,57]:uBp).contains (UInt8.ofNat m.val)=true:=by decide
  have h:=this ⟨c.toNat,UInt8.toNat_lt c⟩ h1 h2;simpa using h
theorem zbp{s cs:uBp}(hs:s.length<=1000000)(hc:cs.length<=1000)(ha:Vr cs=true):ZL s cs=some (Lib.trimS s cs):=by unfold ZL;rw[decide_eq_true (show s.length<=9223372036854775807 by omega),decide_eq_true (show cs.length<4294967281 by omega),ha];rfl
theorem zgb{N:Nat}{s:uBp}(hs:s.length<=1000000):zbO N s=some (decide (s≠[]/\Digs s)):=by
 unfold zbO;rw[zg];by_cases h:s=[]
 ·rw[if_pos h];simp[h]
 ·rw[if_neg h,zbp hs (by decide) (by decide),zc];congr 1;rw[uAi];simp only[decide_eq_true_eq];rw[zca];constructor
  ·intro k;exact⟨h,fun c hc=>(Wi c).1 (k c hc)⟩
  ·rintro⟨_,k⟩ c hc;exact (Wi c).2 (k c hc)
theorem znN{s:uBp}:Jo s [48]=some (tz s):=by unfold Jo;rw[zui];rfl
theorem zrS{s:uBp}(hs:s.length<=1000000)(hd:Digs s):∃t,ZL s [48]=some t/\(t=[]↔val s=0):=by
 refine⟨_,zbp hs (by decide) (by decide),?_⟩;rw[zca];constructor
 ·intro h;exact zrG fun c hc=>by simpa using h c hc
 ·intro h c hc;rw[zeM hd h c hc];decide
theorem zbt{m:Nat}(hm:m<=100000):jZ [48] (m:Int)=some (List.replicate m 48):=by
 have e:Lib.repeatL [48] m=List.replicate m 48:=by
  induction m with
  |zero=>rfl
  |succ m ih=>rw[Lib.repeatL,ih (by omega),nM];rfl
 unfold jZ;simp only[mP,mI,uAX];rw[decide_eq_true (show(0:Int)<=(m:Int)by omega),decide_eq_true (show(m:Int)<=9223372036854775807 by omega),decide_eq_true (by omega),e];rfl
theorem zlJ(l:uBp)(c:UInt8)(hl:l.length<=1000000):Xe (l++[c]) [48]=some (decide (c=48)):=by
 unfold Xe;rw[decide_eq_true (by simp;omega),za];congr 1;unfold Lib.hasSuffix;rw[uAi,decide_eq_true_eq,List.isSuffixOf_iff_suffix];constructor
 ·rintro⟨t,ht⟩;have:=congrArg List.getLast? ht;simp at this;exact this.symm
 ·rintro rfl;exact⟨l,rfl⟩
def yS(c:Bool×uBp×Nat):Decimal:=Decimal.mk c.1 c.2.1 (c.2.2:Int)
def zew:Decimal:=Decimal.mk false [] 0
def nrm(neg:Bool)(l:uBp)(sc:Int):Decimal×Int:=if 62<(canon neg (val l*10^(-sc).toNat) sc.toNat).2.1.length\/62<(canon neg (val l*10^(-sc).toNat) sc.toNat).2.2 then(zew,14)else(yS (canon neg (val l*10^(-sc).toNat) sc.toNat),0)
theorem WU(N:Nat)(neg:Bool)(l:uBp)(s:Nat)(b:Decimal):Ya N neg l (s:Int) b=some (if 62<l.length\/62<s then(zew,14)else(Decimal.mk neg l (s:Int),0)):=by
 unfold Ya jA;rw[zb];by_cases h:62<l.length\/62<s
 ·rw[if_pos h,if_pos (by split<;>omega)];rfl
 ·rw[if_neg h,if_neg (by split<;>omega)]
theorem zom{v:Nat}(h:v≠0)(k:Nat):dstr v++List.replicate k 48=dstr (v*10^k):=by
 have e:val (dstr v++List.replicate k 48)=v*10^k:=by rw[yG,Jz]
 rw[<-e,zjW (Digs.append.2 ⟨QI v,Digs.zeros k⟩)];intro c r hc;rcases hd:dstr v with _|⟨x,t⟩
 ·exact absurd (zf6.1 hd) h
 ·rw[hd]at hc;cases hc;exact zd8 (l:=dstr v) (by rw[ziI,hd])
theorem WV(N:Nat)(neg:Bool){l:uBp}{s:Int}(b:Decimal)(h1: -2000<=s)(hl:l.length<=2000):
  Zo N neg l s b=some (if 62<l.length+(-s).toNat\/62<s.toNat then(zew,14)else(Decimal.mk neg (l++List.replicate (-s).toNat 48) (s.toNat:Int),0)):=by
 unfold Zo;rw[zb];by_cases h:s<0
 ·obtain⟨m,hm⟩:∃m:Nat,-s=m:=⟨(-s).toNat,by omega⟩
  have e1:s.toNat=0:=by omega
  rw[if_pos h,hm,zh (by omega) (by omega),za,zbt (by omega),zc,jc (by simp;omega),za];have:=WU N neg (l++List.replicate m 48) 0 b;rw[e1,mP];rw[mM,mN]at this;exact this
 ·obtain⟨m,hm⟩:∃m:Nat,s=m:=⟨s.toNat,by omega⟩
  rw[if_neg h];have e2:(-s).toNat=0:=by omega
  rw[e2,List.replicate_zero,mV,uAf,hm,WU,mP]
theorem zbP(N:Nat)(neg:Bool)(b:Decimal):∀(m n:Nat)(l:uBp)(s:Int),s.toNat=m->m<n->Digs l->(∃c r,l=c::r/\c≠48)->l.length<=2000->s<=2000->
  J9 N n neg l s b=Zo N neg (dstr (zK s.toNat (val l)).1) (if s<0 then s else((zK s.toNat (val l)).2:Int)) b
 |m,0,l,s,hm,hn,_,_,_,_=>by omega
 |m,n+1,l,s,hm,hn,hd,⟨c,r,hcr,hc⟩,hl,hs=>by
  have hself:dstr (val l)=l:=zjW hd fun c' r' h=>by rw[hcr]at h;cases h;exact hc
  show XD N (J9 N n) neg l s b=_;unfold XD;rw[zb];by_cases h:0<s
  ·obtain⟨q,rfl⟩:∃q:Nat,s=(q+1:Nat):=⟨(s-1).toNat,by omega⟩
   rcases List.eq_nil_or_concat l with h0|⟨t,x,h0⟩
   ·rw[h0]at hcr;cases hcr
   ·rw[List.concat_eq_append]at h0;subst h0;rw[mM]at hl;simp only[mI,uAX]at hl;rw[Digs.append,Digs.cons]at hd;have hv:=Jy t x;have hx:=hd.2.1;rw[if_pos h,zlJ t x (by omega),zc,zb,mP];by_cases hx0:x=48
    ·have ht:∃c r,t=c::r/\c≠48:=by
      cases t with
      |nil=>cases hcr;exact absurd hx0 hc
      |cons c' r'=>cases hcr;exact⟨_,_,rfl,hc⟩
     have e1:(((t++[x]).length:Int)-1)=(t.length:Int):=by simp
     have e2:(((q+1:Nat):Int)-1)=(q:Int):=by omega
     have hin:zm 0 (t.length:Int) (t++[x]).length=true:=by unfold zm;simp;omega
     have e3:js (t++[x]) (t.length:Int)=t:=by unfold js;simp
     have e4:zK (q+1) (val (t++[x]))=zK q (val t):=by subst hx0;rw[hv,zK,if_pos (by simp)];congr 1;simp
     rw[if_pos hx0,e1,e2,zh (by omega) (by omega),za,hin,za,zh (by omega) (by omega),za,e3,
      zbP N neg b q n t (q:Int) (by simp) (by simp at hm;omega) hd.1 ht (by omega) (by omega),e4,mP,if_neg (by omega),if_neg (by omega)]
    ·have hx1:x.toNat≠48:=fun e=>hx0 (UInt8.toNat_inj.1 e)
     have e4:zK (q+1) (val (t++[x]))=(val (t++[x]),q+1):=by rw[zK,if_neg (by rw[hv];omega)]
     rw[if_neg hx0,e4,hself,if_neg (by omega)]
  ·rw[if_neg h];have e1:s.toNat=0:=by omega
   rw[e1];simp only[zK,hself];by_cases h2:s<0
   ·rw[if_pos h2]
   ·rw[if_neg h2,show s=((0:Nat):Int)by omega]
theorem zay{N:Nat}(hN:3000<N)(neg:Bool){l:uBp}(hd:Digs l)(hl:l.length<=2000){s:Int}(h1: -2000<=s)(h2:s<=2000):Wk N neg l s=some (nrm neg l s):=by
 unfold Wk;rw[znN,zc,zb];by_cases h0:val l=0
 ·rw[if_pos ((W6 hd).2 h0)];unfold nrm;rw[h0,uAR,jy];rfl
 ·have hne:tz l≠[]:=fun e=>h0 ((W6 hd).1 e)
  rw[if_neg hne];obtain⟨c,r,hcr⟩:∃c r,tz l=c::r:=by
   rcases htz:tz l with _|⟨c,r⟩
   ·exact absurd htz hne
   ·exact⟨c,r,rfl⟩
  have hlen:=zv8 l;rw[zbP N neg _ s.toNat N (tz l) s rfl (by omega) hd.tz ⟨c,r,hcr,zd8 hcr⟩ (by omega) h2,Kf];have hsl:(dstr (zK s.toNat (val l)).1).length<=2000:=by
   have hlt:=j9 hd;have hle:(zK s.toNat (val l)).1<=val l:=by have:=(ql s.toNat (val l)).1;have hp:=pow_pos (s.toNat-(zK s.toNat (val l)).2);rw[this];exact nD (Nat.le_of_eq (mQ _).symm) (by rw[<-this];exact nD (Nat.mul_le_mul_left _ hp) (Nat.le_of_eq this.symm))
   have:=zme (v:=(zK s.toNat (val l)).1) (n:=l.length) (by omega);omega
  by_cases hs:s<0
  ·rw[if_pos hs,WV N neg _ h1 hsl];have e1:s.toNat=0:=by omega
   unfold nrm;rw[e1];have e2:zK 0 (val l)=(val l,0):=rfl;have hv:val l*10^(-s).toNat≠0:=fun e=>by
    rcases Nat.mul_eq_zero.1 e with e|e
    ·exact h0 e
    ·have:=pow_pos (-s).toNat;omega
   have e3:canon neg (val l*10^(-s).toNat) 0=(neg,dstr (val l)++List.replicate (-s).toNat 48,0):=by unfold canon;rw[if_neg hv,zom h0];rfl
   rw[e2,e3];dsimp only;rw[mM,mN];rfl
  ·rw[if_neg hs,WV N neg _ (by omega) hsl];unfold nrm;have e1:(-s).toNat=0:=by omega
   have e3:canon neg (val l*10^(-s).toNat) s.toNat=(neg,dstr (zK s.toNat (val l)).1,(zK s.toNat (val l)).2):=by rw[e1,nH,mQ];unfold canon;rw[if_neg h0]
   have e4:(-(((zK s.toNat (val l)).2:Nat):Int)).toNat=0:=by omega
   rw[e3,e4,mP,uAf,List.replicate_zero,mV];rfl
def VD(d:Decimal):Prop:=d.uA≠[]/\Digs d.uA/\d.uA.length<=62/\0<=d.uB/\d.uB<=62/\nrm d.uH d.uA d.uB=(d,0)
instance(d:Decimal):Decidable (VD d):=by unfold VD;infer_instance
theorem zbQ{N:Nat}(hN:3000<N)(neg:Bool){l:uBp}(hd:Digs l)(h0:l≠[])(hl:l.length<=1000){s:Int}(h1: -1000<=s)(h2:s<=1000):zcN N neg l s=some (nrm neg l s):=by unfold zcN;rw[zgb (by omega),zc,zg,if_pos ⟨h0,hd⟩,zb,if_neg (by omega),zb,if_neg (by omega),zb,if_neg (by omega),zay hN neg hd (by omega) (by omega) (by omega),zc]
theorem zcO{N:Nat}(hN:3000<N){d:Decimal}(hl:d.uA.length<=1000):zcP N d=some (if VD d then 0 else 1):=by
 unfold zcP;rw[zgb (by omega),zc,zg];by_cases h1:d.uA≠[]/\Digs d.uA
 ·rw[if_pos h1,zb];by_cases h2:62<(d.uA.length:Int)
  ·rw[if_pos h2,if_neg (fun h=>by have:=h.2.2.1;omega)]
  ·rw[if_neg h2,zb];by_cases h3:d.uB<0
   ·rw[if_pos h3,if_neg (fun h=>by have:=h.2.2.2.1;omega)]
   ·rw[if_neg h3,zb];by_cases h4:62<d.uB
    ·rw[if_pos h4,if_neg (fun h=>by have:=h.2.2.2.2.1;omega)]
    ·rw[if_neg h4,zay hN _ h1.2 (by omega) (by omega) (by omega),zc,zg];by_cases h5:(nrm d.uH d.uA d.uB).2=0
     ·rw[if_pos h5];have e:(decide ((nrm d.uH d.uA d.uB).1.uH=d.uH)&&(decide ((nrm d.uH d.uA d.uB).1.uA=d.uA)&&(decide ((nrm d.uH d.uA d.uB).1.uB=d.uB)&&true)))=decide ((nrm d.uH d.uA d.uB).1=d):=by rw[uAi];obtain⟨a,b,c⟩:=d;generalize (nrm a b c).1=y;obtain⟨p,q,r⟩:=y;simp
      rw[e,zg];by_cases h6:(nrm d.uH d.uA d.uB).1=d
      ·rw[if_pos h6,if_pos ⟨h1.1,h1.2,by omega,by omega,by omega,Prod.ext h6 h5⟩]
      ·rw[if_neg h6,if_neg (fun h=>h6 (by rw[h.2.2.2.2.2]))]
     ·rw[if_neg h5,if_neg (fun h=>h5 (by rw[h.2.2.2.2.2]))]
 ·rw[if_neg h1,if_neg (fun h=>h1 ⟨h.1,h.2.1⟩)]
theorem VD.form{d:Decimal}(h:VD d):yS (canon d.uH (val d.uA) d.uB.toNat)=d:=by
 obtain⟨_,_,_,h4,_,h6⟩:=h;unfold nrm at h6;have e:(-d.uB).toNat=0:=by omega
 rw[e,nH,mQ]at h6;split at h6
 ·cases h6
 ·exact congrArg Prod.fst h6
theorem VD.of{neg:Bool}{v s:Nat}(h1:(canon neg v s).2.1.length<=62)(h2:(canon neg v s).2.2<=62):VD (yS (canon neg v s)):=by
 refine⟨ztO _ _ _,zow _ _ _,h1,?_,?_,?_⟩
 ·show(0:Int)<=((canon neg v s).2.2:Int);omega
 ·show((canon neg v s).2.2:Int)<=62;omega
 ·unfold nrm;have e1:(-(yS (canon neg v s)).uB).toNat=0:=by show(-((canon neg v s).2.2:Int)).toNat=0;omega
  have e2:(yS (canon neg v s)).uB.toNat=(canon neg v s).2.2:=by show(((canon neg v s).2.2:Nat):Int).toNat=_;omega
  have e3:canon (yS (canon neg v s)).uH (val (yS (canon neg v s)).uA) (canon neg v s).2.2=canon neg v s:=zmv neg v s;rw[e1,e2,nH,mQ,e3,if_neg (by omega)]
theorem zag{neg:Bool}{l:uBp}{s:Int}(h1:(canon neg (val l*10^(-s).toNat) s.toNat).2.1.length<=62)(h2:(canon neg (val l*10^(-s).toNat) s.toNat).2.2<=62):
  nrm neg l s=(yS (canon neg (val l*10^(-s).toNat) s.toNat),0):=by
 unfold nrm;rw[if_neg (by omega)]
theorem yi{neg:Bool}{v s n:Nat}(hn:1<=n)(h:v<10^n):(canon neg v s).2.1.length<=n:=by
 unfold canon;split
 ·simpa using hn
 ·dsimp only;refine zme ?_;have:=(ql s v).1;have hp:=pow_pos (s-(zK s v).2);have hle:(zK s v).1<=v:=by rw[this];exact nD (Nat.le_of_eq (mQ _).symm) (by rw[<-this];exact nD (Nat.mul_le_mul_left _ hp) (Nat.le_of_eq this.symm))
  omega
end Go.Proofs.C06
end
section
set_option maxRecDepth 100000
namespace Go.Proofs.C06
open Go Go.RowKit Go.Vc Go.Am Go.Dg
theorem zuM{v len k:Nat}(h:v<10^len):v%10^(min len k)=v%10^k:=by
 rcases Nat.le_total k len with hk|hk
 ·rw[Nat.min_eq_right hk]
 ·rw[uAQ hk,uAn h,uAn (uAJ h (nR (by decide) hk))]
theorem zhk(l:uBp){m:Nat}(h:m<=l.length):js l ((l.length:Int)-(m:Int))=l.take (l.length-m):=by unfold js;congr 1;omega
theorem Wg(l:uBp){m:Nat}(h:m<=l.length):zX l ((l.length:Int)-(m:Int))=l.drop (l.length-m):=by unfold zX;congr 1;omega
theorem zoq{N:Nat}(hN:3000<N){d b:Decimal}(hd:VD d){m:Nat}(hm:m<=d.uA.length):
  zbR N (m:Int) d b=some ((nrm d.uH (d.uA.take (d.uA.length-m)++List.replicate m 48) d.uB).1,decide (val d.uA%10^m=0),(nrm d.uH (d.uA.take (d.uA.length-m)++List.replicate m 48) d.uB).2):=by
 obtain⟨h1,h2,h3,h4,h5,_⟩:=hd;unfold zbR;have hin1:zm ((d.uA.length:Int)-(m:Int)) (d.uA.length:Int) d.uA.length=true:=by unfold zm;simp<;>omega
 have hin2:zm 0 ((d.uA.length:Int)-(m:Int)) d.uA.length=true:=by unfold zm;simp<;>omega
 obtain⟨t,e1,e2⟩:=zrS (s:=d.uA.drop (d.uA.length-m)) (by rw[mJ];omega) (h2.drop _);rw[zh (by omega) (by omega),za,hin1,za,za,hin2,za,zbt (by omega),zc,zhk _ hm,Wg _ hm,
  jc (by rw[mH,mN];omega),za,
  zay hN _ (Digs.append.2 ⟨h2.take _,Digs.zeros _⟩) (by rw[mM,mH,mN];omega) (by omega) (by omega),zc,e1,zc]
 have e3:(t=[])↔val d.uA%10^m=0:=by rw[e2,(jD h2 hm).2]
 rw[decide_eq_decide.2 e3]
theorem zj0{N:Nat}(hN:3000<N){d:Decimal}(hd:VD d){s:Int}(hs: -1000<=s)(hs2:s<=1000):
  ∃x e,zmj N d s=some (x,decide (val d.uA%10^(d.uB-s).toNat=0),e)/\
   (d.uB<=s->x=d/\e=0)/\(s<d.uB->∃m,m=min d.uA.length (d.uB-s).toNat/\(x,e)=nrm d.uH (d.uA.take (d.uA.length-m)++List.replicate m 48) d.uB):=by
 have hd':=hd;obtain⟨h1,h2,h3,h4,h5,_⟩:=hd';unfold zmj;rw[zcO hN (by omega),if_pos hd,zc,zg,if_pos rfl,zb];by_cases h:d.uB<=s
 ·rw[if_pos h];refine⟨d,0,?_,fun _=>⟨rfl,rfl⟩,fun h'=>by omega⟩;have e:(d.uB-s).toNat=0:=by omega
  rw[e,nH,Nat.mod_one,decide_eq_true rfl]
 ·rw[if_neg h,zb,if_pos (by omega),zh (by omega) (by omega),za];have em:zjf (d.uA.length:Int) (d.uB-s)=((min d.uA.length (d.uB-s).toNat:Nat):Int):=by unfold zjf;split<;>omega
  rw[em,zoq hN hd (by omega),zuM (j9 h2)];exact⟨_,_,rfl,fun h'=>absurd h' h,fun _=>⟨_,rfl,rfl⟩⟩
def quo(v S:Nat)(s:Int):Nat:=v*10^(s-(S:Int)).toNat/10^((S:Int)-s).toNat
def exact(v S:Nat)(s:Int):Prop:=v%10^((S:Int)-s).toNat=0
instance(v S:Nat)(s:Int):Decidable (exact v S s):=by unfold exact;infer_instance
theorem zbd{N:Nat}{n:Nat}{s:uBp}(hn:n<=1000)(hs:s.length<=1000):Qb N (n:Int) s=some (List.replicate (n-s.length) 48++s,true):=by
 unfold Qb;have e:jA ((n:Int)-(s.length:Int)) 0=((n-s.length:Nat):Int):=by unfold jA;split<;>omega
 rw[zh (by omega) (by omega),za,e,zbt (by omega),zc,jc (by rw[mN];omega),za]
theorem VK{N:Nat}(hN:3000<N){d:Decimal}(hd:VD d){n:Nat}{s:Int}(hn:n<=1000)(hs: -62<=s)(hs2:s<=62):
  (exact (val d.uA) d.uB.toNat s->∃t,places N d (n:Int) s=some (t,true)/\Digs t/\val t=quo (val d.uA) d.uB.toNat s/\n<=t.length/\t.length<=2000)/\
  (¬exact (val d.uA) d.uB.toNat s->places N d (n:Int) s=some ([],false)):=by
 obtain⟨x,e,hc,_⟩:=zj0 hN hd (s:=s) (by omega) (by omega);obtain⟨h1,h2,h3,h4,h5,_⟩:=hd;have hS:((d.uB.toNat:Nat):Int)=d.uB:=by omega
 have hex:(val d.uA%10^(d.uB-s).toNat=0)↔exact (val d.uA) d.uB.toNat s:=by unfold exact;rw[hS]
 unfold places;rw[hc,zc,zg];constructor
 ·intro he;rw[if_pos (hex.2 he),zh (by omega) (by omega),za,zb];by_cases h:0<=s-d.uB
  ·obtain⟨k,hk⟩:∃k:Nat,s-d.uB=k:=⟨(s-d.uB).toNat,by omega⟩
   have e1:(d.uB-s).toNat=0:=by omega
   refine⟨List.replicate (n-(d.uA++List.replicate k 48).length) 48++(d.uA++List.replicate k 48),?_,?_,?_,?_,?_⟩
   ·rw[if_pos h,hk,zbt (by omega),zc,jc (by rw[mN];omega),za,zbd hn (by rw[mM,mN];omega)]
   ·exact Digs.append.2 ⟨Digs.zeros _,Digs.append.2 ⟨h2,Digs.zeros _⟩⟩
   ·rw[Y2,yG];unfold quo;rw[hS,hk,e1,mP,nH,Nat.div_one]
   ·simp only[mM,mN];omega
   ·simp only[mM,mN];omega
  ·obtain⟨k,hk⟩:∃k:Nat,d.uB-s=k:=⟨(d.uB-s).toNat,by omega⟩
   have em:jA ((d.uA.length:Int)+(s-d.uB)) 0=((d.uA.length-k:Nat):Int):=by unfold jA;split<;>omega
   have et:js d.uA ((d.uA.length-k:Nat):Int)=d.uA.take (d.uA.length-k):=rfl;have hin:zm 0 ((d.uA.length-k:Nat):Int) d.uA.length=true:=by unfold zm;simp<;>omega
   have e1:(s-d.uB).toNat=0:=by omega
   refine⟨List.replicate (n-(d.uA.take (d.uA.length-k)).length) 48++d.uA.take (d.uA.length-k),?_,?_,?_,?_,?_⟩
   ·rw[if_neg h,zh (by omega) (by omega),za,em,hin,za,et,zbd hn (by rw[mH];omega)]
   ·exact Digs.append.2 ⟨Digs.zeros _,h2.take _⟩
   ·rw[Y2];unfold quo;rw[hS,e1,hk,mP,nH,mQ];rcases Nat.le_total k d.uA.length with hkl|hkl
    ·exact (jD h2 hkl).1
    ·have:d.uA.length-k=0:=by omega
     rw[this,uAP,zix,uA6 (uAJ (j9 h2) (nR (by decide) hkl))]
   ·simp only[mM,mN,mH];omega
   ·simp only[mM,mN,mH];omega
 ·intro he;rw[if_neg (fun h=>he (hex.1 h))]
theorem zcj{N:Nat}(hN:3000<N){d:Decimal}(hl:d.uA.length<=1000){n:Nat}{s:Int}(hn0:1<=n)(hn:n<=62)(hs: -62<=s)(hs2:s<=62):ze7 N d (n:Int) s=some (if VD d then 0 else 1):=by
 unfold ze7;rw[zcO hN hl,zc,zg];by_cases h:VD d
 ·rw[if_pos h,if_pos rfl,zb,if_neg (by omega),zb,if_neg (by omega),zb,if_neg (by omega),zb,if_neg (by omega)]
 ·rw[if_neg h,if_neg (by decide)]
def qV(d:Decimal)(n:Nat)(s:Int):Prop:=exact (val d.uA) d.uB.toNat s/\quo (val d.uA) d.uB.toNat s<10^n
instance(d:Decimal)(n:Nat)(s:Int):Decidable (qV d n s):=by unfold qV;infer_instance
theorem zk7{N:Nat}(hN:3000<N){d:Decimal}(hd:VD d){n:Nat}{s:Int}(hn0:1<=n)(hn:n<=62)(hs: -62<=s)(hs2:s<=62):zk8 N d (n:Int) s=some (decide (qV d n s),0):=by
 have hlen:d.uA.length<=1000:=by have:=hd.2.2.1;omega
 obtain⟨p1,p2⟩:=VK hN hd (n:=n) (s:=s) (by omega) hs hs2;unfold zk8;rw[zcj hN hlen hn0 hn hs hs2,if_pos hd,zc,zg,if_pos rfl];by_cases he:exact (val d.uA) d.uB.toNat s
 ·obtain⟨t,e1,e2,e3,e4,e5⟩:=p1 he;have hin:zm 0 ((t.length:Int)-(n:Int)) t.length=true:=by unfold zm;simp<;>omega
  obtain⟨q,g1,g2⟩:=zrS (s:=t.take (t.length-n)) (by rw[mH];omega) (e2.take _);rw[e1,zc];dsimp only;rw[cond_true,zh (by omega) (by omega),za,hin,za,zhk _ e4,g1,zc];congr 2;rw[decide_eq_decide,g2,(jD e2 e4).1,e3];unfold qV;have hp:=pow_pos n;constructor
  ·intro h;exact⟨he,by rcases Nat.div_eq_zero_iff.1 h with h|h;omega;exact h⟩
  ·intro h;exact uA6 h.2
 ·rw[p2 he,zc];dsimp only;rw[cond_false,decide_eq_false (fun h=>he h.1)]
theorem zac{N:Nat}(hN:3000<N){d:Decimal}(hd:VD d){n:Nat}{s:Int}(hn0:1<=n)(hn:n<=62)(hs: -62<=s)(hs2:s<=62):
  Yp N d (n:Int) s=some (if qV d n s then(fmt n (quo (val d.uA) d.uB.toNat s),0)else([],14)):=by
 obtain⟨p1,_⟩:=VK hN hd (n:=n) (s:=s) (by omega) hs hs2;unfold Yp;rw[zk7 hN hd hn0 hn hs hs2,zc,zg,if_pos rfl,zg];by_cases h:qV d n s
 ·obtain⟨t,e1,e2,e3,e4,e5⟩:=p1 h.1;have hin:zm ((t.length:Int)-(n:Int)) (t.length:Int) t.length=true:=by unfold zm;simp<;>omega
  rw[if_pos h,if_pos h,e1,zc];dsimp only;rw[zh (by omega) (by omega),za,hin,za,Wg _ e4];congr 2;refine zwL (e2.drop _) (by rw[mJ];omega) ?_;rw[(jD e2 e4).2,e3,uAn h.2]
 ·rw[if_neg h,if_neg h]
theorem J2{v S n:Nat}{s:Int}(hS:S<=62)(hs: -62<=s)(hs2:s<=62):(exact v S s/\quo v S s<10^n)↔∃q,q<10^n/\v*10^(62+s).toNat=q*10^(62+S):=by
 unfold exact quo;have hp:0<10^((S:Int)-s).toNat:=pow_pos _;have key:∀q,(v*10^(s-(S:Int)).toNat=q*10^((S:Int)-s).toNat)↔v*10^(62+s).toNat=q*10^(62+S):=by
  intro q;rcases Int.le_total s S with h|h
  ·have e1:(s-(S:Int)).toNat=0:=by omega
   have e2:62+S=((S:Int)-s).toNat+(62+s).toNat:=by omega
   rw[e1,e2,nH,mQ,uAu,<-nL];constructor
   ·intro h;rw[h]
   ·intro h;exact uAt (pow_pos _) h
  ·have e1:((S:Int)-s).toNat=0:=by omega
   have e2:(62+s).toNat=(s-(S:Int)).toNat+(62+S):=by omega
   rw[e1,e2,nH,mQ,uAu,<-nL];constructor
   ·intro h;rw[h]
   ·intro h;exact uAt (pow_pos _) h
 constructor
 ·rintro⟨h1,h2⟩;refine⟨_,h2,(key _).1 ?_⟩;rw[Nat.div_mul_cancel];exact Nat.dvd_trans (Nat.dvd_of_mod_eq_zero h1) (Nat.dvd_mul_right _ _)
 ·rintro⟨q,h1,h2⟩;have h3:=(key q).2 h2;refine⟨?_,by rw[h3,Nat.mul_div_cancel _ hp];exact h1⟩;rcases Int.le_total s S with h|h
  ·have e1:(s-(S:Int)).toNat=0:=by omega
   rw[e1,nH,mQ]at h3;rw[h3];exact Nat.mul_mod_left _ _
  ·have e1:((S:Int)-s).toNat=0:=by omega
   rw[e1,nH,Nat.mod_one]
theorem ze8{v S q:Nat}{s:Int}(hS:S<=62)(hs: -62<=s)(hs2:s<=62)(h:v*10^(62+s).toNat=q*10^(62+S)):quo v S s=q:=by
 obtain⟨h1,h2⟩:=(J2 (v:=v) (n:=q+1) hS hs hs2).2 ⟨q,uAJ (KF q) (nR (by decide) (by omega)),h⟩;obtain⟨q',h3,h4⟩:=(J2 (v:=v) (n:=q+1) hS hs hs2).1 ⟨h1,h2⟩;have hq:q'=q:=uAt (pow_pos _) (h4.symm.trans h);unfold quo;rcases Int.le_total s S with h'|h'
 ·have e1:(s-(S:Int)).toNat=0:=by omega
  have e2:62+S=((S:Int)-s).toNat+(62+s).toNat:=by omega
  rw[e2,uAu,<-nL]at h;have:=uAt (pow_pos _) h;rw[e1,nH,mQ,this,Nat.mul_div_cancel _ (pow_pos _)]
 ·have e1:((S:Int)-s).toNat=0:=by omega
  have e2:(62+s).toNat=(s-(S:Int)).toNat+(62+S):=by omega
  rw[e2,uAu,<-nL]at h;have:=uAt (pow_pos _) h;rw[e1,nH,Nat.div_one,this]
end Go.Proofs.C06
end
section
namespace Go.Dg
open Go
theorem zks(k:IntKind)(n:Int):k.wrap n=k.wrap (n% (2^k.bits:Int)):=by unfold IntKind.wrap;simp only[Int.emod_emod_of_dvd _ (Int.dvd_refl _)]
theorem zmV{k:IntKind}{m n:Int}(h:m% (2^k.bits:Int)=n% (2^k.bits:Int)):k.wrap m=k.wrap n:=by rw[zks,h,<-zks]
theorem zoR{n:Int}(h0:0<=n)(h1:n<256):IntKind.wrap .u8 n=n:=by have e:(2^IntKind.bits .u8:Int)=256:=rfl;unfold IntKind.wrap;rw[e];simp only[show IntKind.signed .u8=false from rfl,Bool.false_and,nC,if_false];omega
theorem wrap_u64(n:Int):IntKind.wrap .u64 n=n%18446744073709551616:=by have e:(2^IntKind.bits .u64:Int)=18446744073709551616:=rfl;unfold IntKind.wrap;rw[e];simp only[show IntKind.signed .u64=false from rfl,Bool.false_and,nC,if_false]
theorem zaQ(n:Int):IntKind.wrap .u8 n=n%256:=by have e:(2^IntKind.bits .u8:Int)=256:=rfl;unfold IntKind.wrap;rw[e];simp only[show IntKind.signed .u8=false from rfl,Bool.false_and,nC,if_false]
theorem wrap_i64(n:Int):IntKind.wrap .i64 n=if 9223372036854775808<=n%18446744073709551616 then n%18446744073709551616-18446744073709551616 else n%18446744073709551616:=by have e:(2^IntKind.bits .i64:Int)=18446744073709551616:=rfl;have e2:(2^(IntKind.bits .i64-1):Int)=9223372036854775808:=rfl;unfold IntKind.wrap;rw[e,e2];simp only[show IntKind.signed .i64=true from rfl,uAp,decide_eq_true_eq,ge_iff_le]
theorem zkt{n:Int}(h0: -9223372036854775808<=n)(h1:n<9223372036854775808):IntKind.wrap .i64 n=n:=by rw[wrap_i64];split<;>omega
theorem ZF(w:Nat)(x:Int):((BitVec.ofInt w x).toNat:Int)=x% (2^w:Int):=by
 rw[BitVec.toNat_ofInt,Int.toNat_of_nonneg]
 ·norm_cast
 ·exact Int.emod_nonneg _ (by have:=Nat.two_pow_pos w;omega)
theorem Je{k:IntKind}{x:Int}{m:Nat}(hm:m<=k.bits):bits .and k x ((2^m-1:Nat):Int)=k.wrap (x% ((2^m:Nat):Int)):=by
 have h2:(BitVec.ofInt k.bits ((2^m-1:Nat):Int)).toNat=2^m-1:=by
  have h:=ZF k.bits ((2^m-1:Nat):Int);have hle:(2:Nat)^m<=2^k.bits:=nR (by decide) hm;have hp:=Nat.two_pow_pos m;have hc:(2^k.bits:Int)=((2^k.bits:Nat):Int):=by norm_cast
  rw[hc,Int.emod_eq_of_lt (by omega) (by omega)]at h;omega
 unfold bits;simp only[BitVec.toNat_and,h2,Nat.and_two_pow_sub_one_eq_mod];congr 1;rw[Int.natCast_emod,ZF];refine Int.emod_emod_of_dvd _ ?_;have:=Nat.pow_dvd_pow 2 hm;have hc:(2^k.bits:Int)=((2^k.bits:Nat):Int):=by norm_cast
 rw[hc];exact Int.natCast_dvd_natCast.2 this
theorem zdy{k:IntKind}{a x:Int}{m:Nat}(hm:m<=k.bits)(ha:a% ((2^m:Nat):Int)=0)(h0:0<=x)(hx:x<((2^m:Nat):Int)):bits .or k a x=k.wrap (a+x):=by
 have hc:(2^k.bits:Int)=((2^k.bits:Nat):Int):=by norm_cast
 have hle:(2:Nat)^m<=2^k.bits:=nR (by decide) hm;obtain⟨A,hA⟩:∃A:Nat,(BitVec.ofInt k.bits a).toNat=A*2^m:=by
  have h:=ZF k.bits a;have hd:((2^m:Nat):Int)∣((BitVec.ofInt k.bits a).toNat:Int):=by apply Int.dvd_of_emod_eq_zero;rw[h,hc,Int.emod_emod_of_dvd _ (Int.natCast_dvd_natCast.2 (Nat.pow_dvd_pow 2 hm))];exact ha
  obtain⟨q,hq⟩:=Int.natCast_dvd_natCast.1 hd;exact⟨q,by rw[hq,uA7]⟩
 obtain⟨y,rfl⟩:∃y:Nat,x=y:=⟨x.toNat,by omega⟩
 have hy:y<2^m:=by omega
 have hX:(BitVec.ofInt k.bits (y:Int)).toNat=y:=by have h:=ZF k.bits (y:Int);rw[hc,Int.emod_eq_of_lt (by omega) (by omega)]at h;omega
 unfold bits;simp only[BitVec.toNat_or,hX];have hor:(BitVec.ofInt k.bits a).toNat|||y=(BitVec.ofInt k.bits a).toNat+y:=by rw[hA,<-Nat.shiftLeft_eq,Nat.shiftLeft_add_eq_or_of_lt hy]
 rw[hor];apply zmV;rw[Int.natCast_add,ZF,Int.emod_add_emod]
theorem zvT{x:Int}:bits .and .u8 x 15=x%16:=by have:=Je (k:=.u8) (x:=x) (m:=4) (by decide);rw[show((2^4-1:Nat):Int)=15 from rfl,show((2^4:Nat):Int)=16 from rfl,zoR (by omega) (by omega)]at this;exact this
theorem zw3{x:Int}:bits .and .i64 x 255=x%256:=by have:=Je (k:=.i64) (x:=x) (m:=8) (by decide);rw[show((2^8-1:Nat):Int)=255 from rfl,show((2^8:Nat):Int)=256 from rfl,zkt (by omega) (by omega)]at this;exact this
theorem zxN{a x:Int}(ha:a%16=0)(h0:0<=x)(hx:x<16):bits .or .u8 a x=(a+x)%256:=by have:=zdy (k:=.u8) (a:=a) (x:=x) (m:=4) (by decide) (by simpa using ha) h0 (by simpa using hx);rw[this,zaQ]
theorem zws{a x:Int}(ha:a%256=0)(h0:0<=x)(hx:x<256):bits .or .u64 a x=(a+x)%18446744073709551616:=by have:=zdy (k:=.u64) (a:=a) (x:=x) (m:=8) (by decide) (by simpa using ha) h0 (by simpa using hx);rw[this,wrap_u64]
end Go.Dg
end
section
set_option maxRecDepth 100000
namespace Go.Proofs.C06
open Go Go.RowKit Go.Vc Go.Am Go.Dg
theorem zO{i n:Nat}(h:i<n):zn (i:Int) n=true:=zt.2 ⟨by omega,by omega⟩
theorem zH(s:uBp)(i:Nat):byteAt s (i:Int)=((s.getD i 0).toNat:Int):=rfl
theorem ZM{n:Int}(h0:0<=n)(h:n<=255):zd .u8 n=true:=yA.2 ⟨h0,h⟩
theorem za1(c:UInt8):c.toNat<256:=UInt8.toNat_lt c
theorem zrT(c:UInt8):((c.toNat:Int).toNat.toUInt8)=c:=by simp
theorem Y5{c:Nat}:toByte (c:Int)=UInt8.ofNat c:=rfl
theorem za2(c:UInt8):toByte ((c.toNat:Nat):Int)=c:=by unfold toByte;rw[mP];exact UInt8.ofNat_toNat
theorem zlT{l:uBp}{i:Nat}(h:i<l.length):l.getD i 0∈l:=by rw[mE,mC h];exact uBf h
theorem yQ{l:uBp}(hd:Digs l){i:Nat}(h:i<l.length):48<=(l.getD i 0).toNat/\(l.getD i 0).toNat<=57:=hd _ (zlT h)
theorem zqp{l:uBp}{i:Nat}(h:i<l.length)(x:UInt8):l.take i++[x]++l.drop (i+1)=l.set i x:=by rw[List.set_eq_take_append_cons_drop,if_pos h,mK];rfl
def zdc:uBp:=[123,65,66,67,68,69,70,71,72,73]
def Xb:uBp:=[125,74,75,76,77,78,79,80,81,82]
def zns:uBp:=[48,49,50,51,52,53,54,55,56,57]
def ixC(c:UInt8):Int:=jA (Lib.indexByte zdc c) (Lib.indexByte Xb c)
def ztx(c:UInt8):Option (Bool×UInt8):=if 0<=ixC c then some (decide (0<=Lib.indexByte Xb c),zns.getD (ixC c).toNat 0)else none
def letC(ng:Bool)(c:UInt8):UInt8:=(if ng then Xb else zdc).getD (c.toNat-48) 0
theorem zwC(c:UInt8):ixC c<10:=by
 have:∀m:Fin 256,ixC (UInt8.ofNat m.val)<10:=by decide
 have h:=this ⟨c.toNat,za1 c⟩;simpa using h
theorem zrl(ng:Bool){c:UInt8}(h:48<=c.toNat/\c.toNat<=57):ztx (letC ng c)=some (ng,c):=by
 have:∀m:Fin 256,48<=m.val->m.val<=57->ztx (letC true (UInt8.ofNat m.val))=some (true,UInt8.ofNat m.val)/\ztx (letC false (UInt8.ofNat m.val))=some (false,UInt8.ofNat m.val):=by decide
 have h2:=this ⟨c.toNat,za1 c⟩ h.1 h.2;simp only[UInt8.ofNat_toNat]at h2;cases ng
 ·exact h2.2
 ·exact h2.1
def sgnAt(ld:Bool)(n:Nat):Nat:=if ld then 0 else n-1
theorem zlY{N:Nat}{f:form}{n:Nat}(hn:f.uA=(n:Int))(h1:1<=n)(h2:n<=100):zlZ N f=some ((sgnAt f.uK n:Nat):Int):=by
 unfold zlZ sgnAt;cases f.uK with
 |true=>rfl
 |false=>rw[cond_false,hn,zh (by omega) (by omega),za,if_neg (by simp)];congr 1;omega
theorem zeX{ld:Bool}{n:Nat}(h:1<=n):sgnAt ld n<n:=by unfold sgnAt;split<;>omega
def rZ(sg ld:Bool)(n:Nat)(b:uBp):digits×Bool:=
 if sg then match ztx (b.getD (sgnAt ld n) 0)with
  |some (ng,x)=>(digits.mk ng (b.set (sgnAt ld n) x),decide (Digs (b.set (sgnAt ld n) x)))
  |none=>(digits.mk false b,decide (Digs b))
 else(digits.mk false b,decide (Digs b))
theorem zvy{s:uBp}(hs:s.length<=1000000):∃t,ZL s [48,49,50,51,52,53,54,55,56,57]=some t/\(t=[]↔Digs s):=by refine⟨_,zbp hs (by decide) (by decide),?_⟩;rw[zca];exact⟨fun h c hc=>(Wi c).1 (h c hc),fun h c hc=>(Wi c).2 (h c hc)⟩
theorem QX{N:Nat}(b0 b1:digits)(h:b1.s.length<=1000):Ji N b0 b1=some (b1,decide (Digs b1.s)):=by unfold Ji;obtain⟨t,h1,h2⟩:=zvy (s:=b1.s) (by omega);rw[h1,zc,decide_eq_decide.2 h2]
theorem zqb{N:Nat}{f:form}{b:uBp}{n:Nat}(hn:f.uA=(n:Int))(h1:1<=n)(h2:n<=100)(hb:b.length=n):zeP N f b=some (rZ f.uE f.uK n b):=by
 unfold zeP rZ;rw[zlY hn h1 h2,zc];have hlt:=zeX (ld:=f.uK) h1;generalize sgnAt f.uK n=i at hlt;cases f.uE with
 |false=>rw[cond_false,QX _ _ (by show b.length<=1000;omega),if_neg (by simp)]
 |true=>
  rw[cond_true,if_pos rfl,zO (by omega),za,zH];unfold ye;rw[zrT,zc,zc];have e:jA (Lib.indexByte [123,65,66,67,68,69,70,71,72,73] (b.getD i 0)) (Lib.indexByte [125,74,75,76,77,78,79,80,81,82] (b.getD i 0))=ixC (b.getD i 0):=rfl;rw[e,zb];have hk:=zwC (b.getD i 0);unfold ztx;by_cases h0:0<=ixC (b.getD i 0)
  ·obtain⟨k,hk0⟩:∃k:Nat,ixC (b.getD i 0)=k:=⟨(ixC (b.getD i 0)).toNat,by omega⟩
   have hsub:Vc.sub ([48,49,50,51,52,53,54,55,56,57]:uBp) (k:Int) ((k:Int)+1)=[zns.getD k 0]:=by
    have:∀m:Fin 10,Vc.sub ([48,49,50,51,52,53,54,55,56,57]:uBp) ((m.val:Nat):Int) (((m.val:Nat):Int)+1)=[zns.getD m.val 0]:=by decide
    exact this ⟨k,by omega⟩
   have hin1:zm 0 (i:Int) b.length=true:=by unfold zm;simp<;>omega
   have hin2:zm (k:Int) ((k:Int)+1) ([48,49,50,51,52,53,54,55,56,57]:uBp).length=true:=by unfold zm;simp<;>omega
   have hin3:zm ((i:Int)+1) (b.length:Int) b.length=true:=by unfold zm;simp<;>omega
   have ht:js b (i:Int)=b.take i:=rfl;have hd:zX b ((i:Int)+1)=b.drop (i+1):=by unfold zX;congr 1
   rw[if_pos h0,if_pos h0,hk0,hsub,hin1,za,zh (by omega) (by omega),za,hin2,za,ht,jc (by simp[List.length_take];omega),za,zh (by omega) (by omega),za,hin3,za,hd,
    jc (by simp[List.length_take];omega),za,zqp (by omega),QX _ _ (by show(b.set i _).length<=1000;rw[List.length_set];omega),mP]
   rfl
  ·rw[if_neg h0,if_neg h0,QX _ _ (by show b.length<=1000;omega)]
def wZ(sg ld ng:Bool)(n:Nat)(s:uBp):uBp:=if sg then s.set (sgnAt ld n) (letC ng (s.getD (sgnAt ld n) 0))else s
theorem jG{n:Int}(h0:0<=n)(h1:n<256):IntKind.wrap .u8 n=n:=zoR h0 h1
theorem Kg{N:Nat}{i:Nat}{ng:Bool}{s:uBp}(hi:i<s.length)(hd:Digs s):ZA N (i:Int) (if ng then Xb else zdc) s=some (s.set i (letC ng (s.getD i 0))):=by
 have h:=yQ hd hi;have hl:(if ng then Xb else zdc).length=10:=by cases ng<;>rfl
 unfold ZA;have e:((s.getD i 0).toNat:Int)-48=(((s.getD i 0).toNat-48:Nat):Int):=by omega
 rw[zO hi,za,za,zH,e,jG (by omega) (by omega),zO (by omega),za,za,zH,ZM (by omega) (by have:=za1 ((if ng then Xb else zdc).getD ((s.getD i 0).toNat-48) 0);omega),
  za2,mP]
 rfl
theorem zkH{N:Nat}{f:form}{d:digits}{n:Nat}(hn:f.uA=(n:Int))(h1:1<=n)(h2:n<=100)(hs:d.s.length=n)(hd:Digs d.s):Y3 N f d=some (wZ f.uE f.uK d.neg n d.s):=by
 unfold Y3 wZ;rw[zlY hn h1 h2,zc];have hlt:=zeX (ld:=f.uK) h1;cases f.uE with
 |false=>rw[cond_false,if_neg (by simp)]
 |true=>
  rw[cond_true,if_pos rfl];have h3:=Kg (N:=N) (ng:=true) (i:=sgnAt f.uK n) (s:=d.s) (by omega) hd;have h4:=Kg (N:=N) (ng:=false) (i:=sgnAt f.uK n) (s:=d.s) (by omega) hd;cases d.neg with
  |true=>exact h3
  |false=>exact h4
theorem zv2{sg ld ng:Bool}{n:Nat}{s:uBp}:(wZ sg ld ng n s).length=s.length:=by unfold wZ;split<;>simp
theorem zxF{sg ld ng:Bool}{n:Nat}{s:uBp}(h1:1<=n)(hs:s.length=n)(hd:Digs s):rZ sg ld n (wZ sg ld ng n s)=(digits.mk (sg&&ng) s,true):=by
 have hlt:=zeX (ld:=ld) h1;unfold rZ wZ;cases sg with
 |false=>simp[hd]
 |true=>
  simp only[if_true,uAp];have e:(s.set (sgnAt ld n) (letC ng (s.getD (sgnAt ld n) 0))).getD (sgnAt ld n) 0=letC ng (s.getD (sgnAt ld n) 0):=by rw[mE,List.getElem?_set_self (by omega)];rfl
  have e2:(s.set (sgnAt ld n) (letC ng (s.getD (sgnAt ld n) 0))).set (sgnAt ld n) (s.getD (sgnAt ld n) 0)=s:=by
   rw[List.set_set];apply uAU;intro j;rw[nN];split
   ·rename_i h;subst h;rw[if_pos (by omega),mE,mC (by omega)];rfl
   ·rfl
  rw[e,zrl ng (yQ hd (by omega))];dsimp only;rw[e2,decide_eq_true hd]
def rS(ld:Bool)(n:Nat)(b:uBp):digits×Bool:=(digits.mk (decide (b.getD (if ld then 0 else n) 0=45)) (if ld then b.drop 1 else b.take n),decide ((b.getD (if ld then 0 else n) 0=43\/b.getD (if ld then 0 else n) 0=45)/\Digs (if ld then b.drop 1 else b.take n)))
theorem zes{c:UInt8}{k:Nat}(hk:k<256):((c.toNat:Int)=(k:Int))↔c=UInt8.ofNat k:=by
 constructor
 ·intro h;apply UInt8.toNat_inj.1;rw[UInt8.toNat_ofNat'];omega
 ·rintro rfl;rw[UInt8.toNat_ofNat'];omega
theorem XV{N:Nat}{f:form}{b:uBp}{n at_ fr:Nat}(hn:f.uA=(n:Int))(h2:n<=100)(hb:b.length=n+1)(ha:at_<b.length)(hf:fr+n<=b.length)(d:digits):
  qO N b (at_:Int) (fr:Int) f d=some (digits.mk (decide (b.getD at_ 0=45)) ((b.take (fr+n)).drop fr),decide ((b.getD at_ 0=43\/b.getD at_ 0=45)/\Digs ((b.take (fr+n)).drop fr))):=by
 unfold qO;have e1:(fr:Int)+f.uA=((fr+n:Nat):Int):=by omega
 have hin:zm (fr:Int) ((fr+n:Nat):Int) b.length=true:=by unfold zm;simp<;>omega
 have es:Vc.sub b (fr:Int) ((fr+n:Nat):Int)=(b.take (fr+n)).drop fr:=rfl;have h43:(((b.getD at_ 0).toNat:Int)=43)↔b.getD at_ 0=43:=zes (k:=43) (by decide);have h45:(((b.getD at_ 0).toNat:Int)=45)↔b.getD at_ 0=45:=zes (k:=45) (by decide);obtain⟨t,t1,t2⟩:=zvy (s:=(b.take (fr+n)).drop fr) (by rw[mJ,mH];omega);rw[zO ha,za,e1,zh (by omega) (by omega),za,hin,za,zH,es];simp only[t1,zc,za,decide_eq_decide.2 h43,decide_eq_decide.2 h45,decide_eq_decide.2 t2];clear h43 h45;generalize b.getD at_ 0=x;by_cases c1:x=43
 ·simp[c1]
 ·by_cases c2:x=45
  ·simp[c2]
  ·simp[c1,c2]
theorem ziG{N:Nat}{f:form}{b:uBp}{n:Nat}(hn:f.uA=(n:Int))(h2:n<=100)(hb:b.length=n+1):Y4 N f b=some (rS f.uK n b):=by
 unfold Y4 rS;cases f.uK with
 |true=>rw[cond_true];have:=XV (N:=N) hn h2 hb (at_:=0) (fr:=1) (by omega) (by omega) (digits.mk false []);rw[show(b.take (1+n)).drop 1=b.drop 1 by rw[nF (by omega)]]at this;exact this
 |false=>rw[cond_false,hn];have:=XV (N:=N) hn h2 hb (at_:=n) (fr:=0) (by omega) (by omega) (digits.mk false []);rw[uAE,nS]at this;exact this
def wS(ld ng:Bool)(s:uBp):uBp:=if ld then(if ng then 45 else 43)::s else s++[if ng then 45 else 43]
theorem zeR{N:Nat}{f:form}{d:digits}(hs:d.s.length<=1000):qw N f d=some (wS f.uK d.neg d.s):=by
 unfold qw qI wS;cases d.neg<;>cases f.uK<;>simp[jc (show([45]:uBp).length+d.s.length<=1000000 by simp;omega),jc (show([43]:uBp).length+d.s.length<=1000000 by simp;omega),
  jc (show d.s.length+([45]:uBp).length<=1000000 by simp;omega),jc (show d.s.length+([43]:uBp).length<=1000000 by simp;omega)]
theorem zv3{ld ng:Bool}{s:uBp}:(wS ld ng s).length=s.length+1:=by unfold wS;split<;>simp
theorem zxG{ld ng:Bool}{n:Nat}{s:uBp}(hs:s.length=n)(hd:Digs s):rS ld n (wS ld ng s)=(digits.mk ng s,true):=by
 unfold rS wS;cases ld with
 |true=>cases ng<;>simp[hd]
 |false=>
  have e:(s++[if ng then(45:UInt8)else 43]).getD n 0=if ng then 45 else 43:=by rw[mE,nK (by omega)];simp[hs]
  have e2:(s++[if ng then(45:UInt8)else 43]).take n=s:=by rw[uAe (by omega),nF (by omega)]
  simp only[nC,if_false,e,e2];cases ng<;>simp[hd]
end Go.Proofs.C06
end
section
set_option maxRecDepth 100000
namespace Go.Proofs.C06
open Go Go.RowKit Go.Vc Go.Am Go.Dg
def nib:uBp->uBp
 |[]=>[]
 |x::r=>UInt8.ofNat (x.toNat/16)::UInt8.ofNat (x.toNat%16)::nib r
theorem zeh:∀b,(nib b).length=2*b.length
 |[]=>rfl
 |x::r=>by rw[nib,mI,mI,zeh r,mI];omega
theorem zfh:∀a b,nib (a++b)=nib a++nib b
 |[],_=>rfl
 |x::a,b=>by rw[nU,nib,nib,zfh a b];rfl
theorem zhI:∀b,∀c∈nib b,c.toNat<16
 |[],c,h=>by cases h
 |x::r,c,h=>by
  have hx:=za1 x;rw[nib]at h;rcases mU.1 h with rfl|h
  ·rw[UInt8.toNat_ofNat'];omega
  ·rcases mU.1 h with rfl|h
   ·rw[UInt8.toNat_ofNat'];omega
   ·exact zhI r c h
theorem yZ{n:Nat}(h:n<=1000000):zF 1 n=true:=by unfold zF;simp;omega
theorem zls{b:uBp}{i:Nat}(h:i<b.length):nib (b.take (i+1))=nib (b.take i)++[UInt8.ofNat ((b.getD i 0).toNat/16),UInt8.ofNat ((b.getD i 0).toNat%16)]:=by
 have e:b.take (i+1)=b.take i++[b.getD i 0]:=by rw[uBn,mC h,mE,mC h];rfl
 rw[e,zfh];rfl
theorem zph(c:UInt8):([(((c.toNat:Nat):Int)/2^(Int.toNat 4)),(bits .and .u8 ((c.toNat:Nat):Int) 15)].map toByte)=[UInt8.ofNat (c.toNat/16),UInt8.ofNat (c.toNat%16)]:=by
 rw[zvT];have e1:(((c.toNat:Nat):Int)/2^(Int.toNat 4))=((c.toNat/16:Nat):Int):=by show(((c.toNat:Nat):Int)/16)=_;omega
 have e2:((c.toNat:Nat):Int)%16=((c.toNat%16:Nat):Int):=by omega
 rw[e1,e2];rfl
theorem zsC(c:UInt8):(zd .u8 (((c.toNat:Nat):Int)/2^(Int.toNat 4))&&(zd .u8 (bits .and .u8 ((c.toNat:Nat):Int) 15)&&true))=true:=by
 have hc:=za1 c;rw[zvT];have e1:(((c.toNat:Nat):Int)/2^(Int.toNat 4))=((c.toNat/16:Nat):Int):=by show(((c.toNat:Nat):Int)/16)=_;omega
 rw[e1,ZM (by omega) (by omega),ZM (by omega) (by omega)];rfl
def pdig(h:uBp):uBp:=h.map fun c=>UInt8.ofNat (c.toNat+48)
def zcn(sg:Bool)(l:UInt8):Prop:=if sg then l.toNat=12\/l.toNat=13 else l.toNat=15
instance(sg:Bool)(l:UInt8):Decidable (zcn sg l):=by unfold zcn;infer_instance
def rP(sg:Bool)(D:Nat)(b:uBp):digits×Bool:=if∀c∈(nib b).take (2*b.length-1),c.toNat<=9 then(digits.mk (decide (((nib b).getD (2*b.length-1) 0).toNat=13)) ((pdig ((nib b).take (2*b.length-1))).drop (2*b.length-1-D)),decide (zcn sg ((nib b).getD (2*b.length-1) 0)/\val ((pdig ((nib b).take (2*b.length-1))).take (2*b.length-1-D))=0))else(digits.mk false [],false)
theorem zhF{h:uBp}(hh:∀c∈h,c.toNat<=9):Digs (pdig h):=by intro x hx;unfold pdig at hx;obtain⟨c,hc,rfl⟩:=uAw.1 hx;have:=hh c hc;rw[UInt8.toNat_ofNat'];omega
def zbA(h:uBp)(t:Nat)(l:UInt8):uBp:=pdig (h.take t)++h.drop t++[l]
theorem zsY{h:uBp}{t:Nat}{l:UInt8}(ht:t<=h.length):(zbA h t l).length=h.length+1:=by unfold zbA pdig;simp[List.length_take,List.length_drop];omega
theorem zuX{h:uBp}{t:Nat}{l:UInt8}(ht:t<h.length):(zbA h t l).getD t 0=h.getD t 0:=by
 unfold zbA;have e:(pdig (h.take t)).length=t:=by unfold pdig;simp[List.length_take];omega
 rw[mK,mE,nK (by omega),e,uA3,mW (by rw[mJ];omega),nE,uAf,mE]
theorem zsX{h:uBp}{t:Nat}{l:UInt8}(ht:t<h.length):(zbA h t l).set t (UInt8.ofNat ((h.getD t 0).toNat+48))=zbA h (t+1) l:=by
 have e:(pdig (h.take t)).length=t:=by unfold pdig;simp[List.length_take];omega
 have e1:h.drop t=h.getD t 0::h.drop (t+1):=by rw[uAk ht,mE,mC ht];rfl
 have e2:h.take (t+1)=h.take t++[h.getD t 0]:=by rw[uBn,mC ht,mE,mC ht];rfl
 have e3:pdig (h.take (t+1))=pdig (h.take t)++[UInt8.ofNat ((h.getD t 0).toNat+48)]:=by rw[e2];unfold pdig;rw[nO];rfl
 unfold zbA;rw[e3,e1];have:pdig (h.take t)++h.getD t 0::h.drop (t+1)++[l]=pdig (h.take t)++(h.getD t 0::(h.drop (t+1)++[l])):=by simp
 rw[this,List.set_append_right _ _ (by omega),e,uA3,List.set_cons_zero];simp
theorem zqV{h:uBp}{l:UInt8}:zbA h h.length l=pdig h++[l]:=by unfold zbA;rw[uAx,uA5,mV]
theorem zgM{N:Nat}{f:form}{D n:Nat}{h:uBp}{l:UInt8}(hD:f.uA=(D:Int))(hn:h.length=n)(hDn:D<=n)(hn2:n<=1000)(hh:∀c∈h,c.toNat<=9)(last:Int)(ok:Bool)(b1:digits):
  Zc N 0 (n:Int) last ok f b1 (pdig h++[l])=some (digits.mk (decide (last=13)) ((pdig h).drop (n-D)),ok&&decide (val ((pdig h).take (n-D))=0)):=by
 have hp:(pdig h).length=n:=by unfold pdig;rw[nI];exact hn
 unfold Zc;have e1:(n:Int)-f.uA=((n-D:Nat):Int):=by omega
 have es1:Vc.sub (pdig h++[l]) (0+0) ((0+0)+(((n-D:Nat):Int)-0))=(pdig h).take (n-D):=by unfold Vc.sub;rw[show((0:Int)+0).toNat=0 from rfl,nS,show((0:Int)+0+(((n-D:Nat):Int)-0)).toNat=n-D by omega,uAe (by omega)]
 have es2:Vc.sub (pdig h++[l]) (0+((n-D:Nat):Int)) ((0+((n-D:Nat):Int))+((n:Int)-((n-D:Nat):Int)))=(pdig h).drop (n-D):=by unfold Vc.sub;rw[show((0:Int)+((n-D:Nat):Int)).toNat=n-D by omega,show(0+((n-D:Nat):Int)+((n:Int)-((n-D:Nat):Int))).toNat=n by omega,uAe (by omega),nF (by omega)]
 obtain⟨t,t1,t2⟩:=zrS (s:=(pdig h).take (n-D)) (by rw[mH];omega) ((zhF hh).take _);rw[e1,zh (by omega) (by omega),za,decide_eq_true (show(0:Int)<=((n-D:Nat):Int)by omega),decide_eq_true (show((n-D:Nat):Int)<=(n:Int)by omega),decide_eq_true (show(n:Int)<=(n:Int)by omega),es1,es2,t1,zc];cases ok<;>simp[t2]
theorem Wx{N:Nat}{f:form}{D n:Nat}{h:uBp}{l:UInt8}(hD:f.uA=(D:Int))(hn:h.length=n)(hDn:D<=n)(hn2:n<=1000)(hs:∀c∈h,c.toNat<16)(b1:digits):∀(k t:Nat),t<=n->n-t<k->
  (∀c∈h.take t,c.toNat<=9)->
  JE N k 0 (n:Int) ((l.toNat:Nat):Int) (n:Int) (t:Int) f b1 (zbA h t l)=
   some (if∀c∈h,c.toNat<=9 then(digits.mk (decide (l.toNat=13)) ((pdig h).drop (n-D)),decide (zcn f.uE l/\val ((pdig h).take (n-D))=0))else(digits.mk false [],false))
 |0,t,_,hk,_=>by omega
 |k+1,t,ht,hk,hin=>by
  show QY N (JE N k) 0 (n:Int) ((l.toNat:Nat):Int) (n:Int) (t:Int) f b1 (zbA h t l)=_;unfold QY;rw[zb];by_cases h1:t<n
  ·have hlen:=zsY (h:=h) (t:=t) (l:=l) (by omega);have hv:=zuX (h:=h) (t:=t) (l:=l) (by omega);have hm:h.getD t 0∈h:=zlT (by omega);have hsm:=hs _ hm;rw[if_pos (by omega),decide_eq_true (show(0:Int)<=(t:Int)by omega),decide_eq_true (show(t:Int)<(n:Int)by omega),uAA,za,show(0:Int)+(t:Int)=(t:Int)by omega,zO (by omega),za,zH,hv,zb];by_cases h2:9<(h.getD t 0).toNat
   ·rw[if_pos (by omega),if_neg (fun hall=>by have:=hall _ hm;omega)]
   ·have e:(((h.getD t 0).toNat:Nat):Int)+48=(((h.getD t 0).toNat+48:Nat):Int):=by omega
    have e2:h.take (t+1)=h.take t++[h.getD t 0]:=by rw[uBn,mC (by omega),mE,mC (by omega)];rfl
    rw[if_neg (by omega),za,za,za,e,jG (by omega) (by omega),ZM (by omega) (by omega),uAA,za,zh (by omega) (by omega),za,mP,Y5,zsX (by omega),
     show(t:Int)+1=((t+1:Nat):Int)by omega]
    refine Wx hD hn hDn hn2 hs b1 k (t+1) (by omega) (by omega) fun c hc=>?_
    rw[e2]at hc;rcases mO.1 hc with hc|hc
    ·exact hin c hc
    ·rw[mL.1 hc];omega
  ·have htn:t=n:=by omega
   subst htn;have hall:∀c∈h,c.toNat<=9:=by rw[<-hn,uAx]at hin;exact hin
   rw[if_neg (by omega),if_pos hall];have ef:zbA h t l=pdig h++[l]:=by rw[<-hn];exact zqV
   rw[ef];simp only[zgM hD hn hDn hn2 hall];have h13:(((l.toNat:Nat):Int)=13)↔l.toNat=13:=by omega
   have h12:(((l.toNat:Nat):Int)=12)↔l.toNat=12:=by omega
   have h15:(((l.toNat:Nat):Int)=15)↔l.toNat=15:=by omega
   simp only[h13,h12,h15];unfold zcn;generalize val ((pdig h).take (t-D))=v;cases f.uE with
   |true=>
    by_cases c1:l.toNat=12
    ·simp[c1]
    ·by_cases c2:l.toNat=13
     ·simp[c2]
     ·simp[c1,c2]
   |false=>
    by_cases c1:l.toNat=15
    ·simp[c1]
    ·simp[c1]
theorem Wy{N:Nat}(hN:3000<N){f:form}{D:Nat}{b:uBp}(hD:f.uA=(D:Int))(hb:1<=b.length)(hDn:D<=2*b.length-1)(hb2:b.length<=300)(b1:digits):∀(k t:Nat),1<=t->t<=b.length->b.length-t<k->
  qk N k (.inr (b,(b.length:Int),(t:Int),f,b1,nib (b.take t)))=some (rP f.uE D b)
 |0,t,_,_,hk=>by omega
 |k+1,t,h0,ht,hk=>by
  show YJ N (qk N k) b (b.length:Int) (t:Int) f b1 (nib (b.take t))=_;unfold YJ;rw[zb];by_cases h1:t<b.length
  ·have hln:(nib (b.take t)).length=2*t:=by rw[zeh,mH];omega
   rw[if_pos (by omega),zO h1,za,zH,zsC,za,zph,yZ (by simp;omega),za,zh (by omega) (by omega),za,<-zls h1,show(t:Int)+1=((t+1:Nat):Int)by omega];exact Wy hN hD hb hDn hb2 b1 k (t+1) (by omega) (by omega) (by omega)
  ·have htb:t=b.length:=by omega
   subst htb;rw[uAx];have hln:=zeh b;have e1:(((nib b).length:Nat):Int)-1=((2*b.length-1:Nat):Int):=by omega
   have hin:zm 0 ((2*b.length-1:Nat):Int) (nib b).length=true:=by unfold zm;simp<;>omega
   have hsp:nib b=zbA ((nib b).take (2*b.length-1)) 0 ((nib b).getD (2*b.length-1) 0):=by unfold zbA pdig;rw[uAP,List.map_nil,nX,nS];have:=mT (2*b.length-1) (nib b);rw[uAk (by omega),nW (by omega)]at this;rw[mE,mC (by omega)];exact this.symm
   rw[if_neg (by omega),e1,zh (by omega) (by omega),za,zO (by omega),za,za,za,hin,za,zH,show((2*b.length-1:Nat):Int)-0=((2*b.length-1:Nat):Int)by omega];have:=Wx (N:=N) (f:=f) (D:=D) (n:=2*b.length-1) (h:=(nib b).take (2*b.length-1)) (l:=(nib b).getD (2*b.length-1) 0) hD (by rw[mH];omega) hDn (by omega)
    (fun c hc=>zhI b c (uBb hc)) b1 N 0 (by omega) (by omega) (by simp)
   rw[<-hsp]at this;exact this
theorem zm3{N:Nat}(hN:3000<N){f:form}{D:Nat}{b:uBp}(hD:f.uA=(D:Int))(hb:1<=b.length)(hDn:D<=2*b.length-1)(hb2:b.length<=300):zaZ N f b=some (rP f.uE D b):=by
 unfold zaZ;obtain⟨M,rfl⟩:∃M,N=M+1:=⟨N-1,by omega⟩
 show YK (M+1) (qk (M+1) M) b (b.length:Int) 0 f (digits.mk false [])=_;unfold YK;have:=zls (b:=b) (i:=0) (by omega);rw[uAP]at this;rw[zb,if_pos (by omega),show(0:Int)=((0:Nat):Int)from rfl,zO (by omega),za,zH,zsC,za,zph,yZ (by simp),za,zh (by omega) (by omega),za];have e0:([]:uBp)++[UInt8.ofNat ((b.getD 0 0).toNat/16),UInt8.ofNat ((b.getD 0 0).toNat%16)]=nib (b.take (0+1)):=this.symm;rw[e0,show((0:Nat):Int)+1=((0+1:Nat):Int)by omega];exact Wy hN hD hb hDn hb2 _ M (0+1) (by omega) (by omega) (by omega)
def pk(l:UInt8):uBp->uBp
 |[]=>[]
 |[a]=>[UInt8.ofNat (16*(a.toNat-48)+l.toNat)]
 |a::c::r=>UInt8.ofNat (16*(a.toNat-48)+(c.toNat-48))::pk l r
def odd(s:uBp):uBp:=if s.length%2=0 then 48::s else s
def wP(sg ng:Bool)(s:uBp):uBp:=pk (if sg then(if ng then 13 else 12)else 15) (odd s)
theorem znu(l:UInt8):∀s,s.length%2=1->(pk l s).length=s.length/2+1
 |[],h=>by simp at h
 |[a],_=>by simp[pk]
 |a::c::r,h=>by simp only[mI]at h;rw[pk,mI,znu l r (by omega),mI,mI];omega
theorem zsB{l:UInt8}(hl:l.toNat<16):∀s,s.length%2=1->Digs s->nib (pk l s)=(s.map fun c=>UInt8.ofNat (c.toNat-48))++[l]
 |[],h,_=>by simp at h
 |[a],_,hd=>by
  have ha:=(Digs.cons.1 hd).1;have e:(UInt8.ofNat (16*(a.toNat-48)+l.toNat)).toNat=16*(a.toNat-48)+l.toNat:=by rw[UInt8.toNat_ofNat'];omega
  rw[pk,nib,e,show(16*(a.toNat-48)+l.toNat)/16=a.toNat-48 by omega,show(16*(a.toNat-48)+l.toNat)%16=l.toNat by omega,UInt8.ofNat_toNat];rfl
 |a::c::r,h,hd=>by
  simp only[mI]at h;rw[Digs.cons,Digs.cons]at hd;obtain⟨ha,hc,hr⟩:=hd;have e:(UInt8.ofNat (16*(a.toNat-48)+(c.toNat-48))).toNat=16*(a.toNat-48)+(c.toNat-48):=by rw[UInt8.toNat_ofNat'];omega
  rw[pk,nib,e,show(16*(a.toNat-48)+(c.toNat-48))/16=a.toNat-48 by omega,show(16*(a.toNat-48)+(c.toNat-48))%16=c.toNat-48 by omega,zsB hl r (by omega) hr];rfl
theorem zvL(l:UInt8):∀(s:uBp)(i:Nat),s.length%2=1->2*i<s.length->
  (pk l s).getD i 0=UInt8.ofNat (16*((s.getD (2*i) 0).toNat-48)+(if 2*i+1<s.length then(s.getD (2*i+1) 0).toNat-48 else l.toNat))
 |[],i,h,_=>by simp at h
 |[a],i,_,h=>by
  have:i=0:=by simp at h;omega
  subst this;rfl
 |a::c::r,0,_,_=>by rw[if_pos (by simp)];rfl
 |a::c::r,i+1,h,hi=>by
  simp only[mI]at h hi;have:=zvL l r i (by omega) (by omega);rw[pk,List.getD_cons_succ,this,show 2*(i+1)=2*i+1+1 by omega,List.getD_cons_succ,List.getD_cons_succ,List.getD_cons_succ,List.getD_cons_succ];simp only[mI];by_cases h2:2*i+1<r.length
  ·rw[if_pos h2,if_pos (by omega)]
  ·rw[if_neg h2,if_neg (by omega)]
theorem zpf(s:uBp):(odd s).length%2=1/\(odd s).length=2*(s.length/2)+1:=by
 unfold odd;split
 ·rw[mI];omega
 ·omega
theorem zsz{s:uBp}(h:Digs s):Digs (odd s):=by
 unfold odd;split
 ·exact Digs.cons.2 ⟨by decide,h⟩
 ·exact h
theorem zlX{p:uBp}{t n:Nat}(ht:t<n)(hp:p.length=n):((p.take t++List.replicate (n-t) 0).set t (p.getD t 0))=p.take (t+1)++List.replicate (n-(t+1)) 0:=by
 have e:(p.take t).length=t:=by rw[mH];omega
 have e2:p.take (t+1)=p.take t++[p.getD t 0]:=by rw[uBn,mC (by omega),mE,mC (by omega)];rfl
 rw[List.set_append_right _ _ (by omega),e,uA3,show n-t=(n-(t+1))+1 by omega,nM,List.set_cons_zero,e2];simp
theorem XQ{N:Nat}{l:UInt8}(hl:l.toNat<16){s:uBp}{n:Nat}(ho:s.length%2=1)(hn:s.length/2+1=n)(hn2:n<=300)(hd:Digs s):∀(k t:Nat),t<=n->n-t<k->
  ya N k ((l.toNat:Nat):Int) s (n:Int) (t:Int) ((pk l s).take t++List.replicate (n-t) 0)=some (pk l s)
 |0,t,_,hk=>by omega
 |k+1,t,ht,hk=>by
  have hpl:(pk l s).length=n:=by rw[znu l s ho];exact hn
  show JA N (ya N k) ((l.toNat:Nat):Int) s (n:Int) (t:Int) _=_;unfold JA;rw[zb];by_cases h1:t<n
  ·have hlen:((pk l s).take t++List.replicate (n-t) (0:UInt8)).length=n:=by rw[mM,mH,mN];omega
   have hat:=zvL l s t ho (by omega);have hD1:=yQ hd (show 2*t<s.length by omega);have e2:(2:Int)*(t:Int)=((2*t:Nat):Int):=by omega
   have e3:((2*t:Nat):Int)+1=((2*t+1:Nat):Int):=by omega
   have step:∀w:Nat,w<16->(pk l s).getD t 0=UInt8.ofNat (16*((s.getD (2*t) 0).toNat-48)+w)->
     qJ N (ya N k) ((l.toNat:Nat):Int) s (t:Int) (w:Int) (n:Int) (t:Int) ((pk l s).take t++List.replicate (n-t) 0)=some (pk l s):=by
    intro w hw he;unfold qJ;have e4:(((s.getD (2*t) 0).toNat:Nat):Int)-48=(((s.getD (2*t) 0).toNat-48:Nat):Int):=by omega
    have e5:((((s.getD (2*t) 0).toNat-48:Nat):Int)*2^(Int.toNat 4))=((16*((s.getD (2*t) 0).toNat-48):Nat):Int):=by show(((s.getD (2*t) 0).toNat-48:Nat):Int)*16=_;omega
    have w1:IntKind.wrap .u8 (((s.getD (2*t) 0).toNat-48:Nat):Int)=(((s.getD (2*t) 0).toNat-48:Nat):Int):=jG (by omega) (by omega);rw[e2,zh (by omega) (by omega),za,zO (by omega),za,zO (by omega),za,zH,e4,w1,e5,jG (by omega) (by omega),zxN (by omega) (by omega) (by omega),
     show(((16*((s.getD (2*t) 0).toNat-48):Nat):Int)+(w:Int))%256=((16*((s.getD (2*t) 0).toNat-48)+w:Nat):Int)by omega,ZM (by omega) (by omega),uAA,za,zh (by omega) (by omega),za,
     mP,Y5,<-he,zlX h1 hpl,show(t:Int)+1=((t+1:Nat):Int)by omega]
    exact XQ hl ho hn hn2 hd k (t+1) (by omega) (by omega)
   rw[if_pos (by omega),e2,zh (by omega) (by omega),za,e3,zh (by omega) (by omega),za,zb,za,za];by_cases h2:2*t+1<s.length
   ·have hD2:=yQ hd h2;have e4:(((s.getD (2*t+1) 0).toNat:Nat):Int)-48=(((s.getD (2*t+1) 0).toNat-48:Nat):Int):=by omega
    rw[if_pos (by omega),zO h2,za,zH,e4,jG (by omega) (by omega)];exact step _ (by omega) (by rw[hat,if_pos h2])
   ·rw[if_neg (by omega)];exact step _ hl (by rw[hat,if_neg h2])
  ·have htn:t=n:=by omega
   subst htn;rw[if_neg (by omega),uA3,List.replicate_zero,mV,nF (by omega)]
theorem XR{N:Nat}(hN:3000<N){l:UInt8}(hl:l.toNat<16){s:uBp}(ho:s.length%2=1)(hs:s.length<=300)(hd:Digs s):qK N ((l.toNat:Nat):Int) s=some (pk l s):=by
 unfold qK;have e1:((s.length:Int)/2)+1=((s.length/2+1:Nat):Int):=by omega
 have e0:(zf (s.length:Int)&&decide (0<2)&&zd .i64 ((s.length:Int)/2))=true:=by rw[zh (by omega) (by omega)];simp[zf]
 have e2:zbi 1 ((s.length/2+1:Nat):Int)=true:=by show(Nat.ble (1*(s.length/2+1)) 281474976710656&&Nat.ble (s.length/2+1) 9223372036854775807)=true;rw[mX (by omega),mX (by omega)];rfl
 rw[e0,za,e1,zh (by omega) (by omega),za,e2,decide_eq_true rfl,uAA,za,mP,mN];have:=XQ (N:=N) hl ho (n:=s.length/2+1) rfl (by omega) hd N 0 (by omega) (by omega);rw[uAP,nX,Nat.sub_zero]at this;exact this
theorem ziE{N:Nat}(hN:3000<N){f:form}{d:digits}(hs:d.s.length<=200)(hd:Digs d.s):Jj N f d=some (wP f.uE d.neg d.s):=by
 have k0:∀(w:Int)(l:UInt8),w=((l.toNat:Nat):Int)->l.toNat<16->yH N w d=some (pk l (odd d.s)):=by
  intro w l hw hl;subst hw;unfold yH odd;have e0:(zf (d.s.length:Int)&&decide (0<2))=true:=by simp[zf]
  rw[e0,za,zb];by_cases h:d.s.length%2=0
  ·rw[if_pos (by omega),if_pos h,jc (by simp;omega),za];exact XR hN hl (by simp;omega) (by simp;omega) (Digs.cons.2 ⟨by decide,hd⟩)
  ·rw[if_neg (by omega),if_neg h];exact XR hN hl (by omega) (by omega) hd
 unfold Jj wP;rw[k0 13 13 rfl (by decide),k0 12 12 rfl (by decide),k0 15 15 rfl (by decide)];cases f.uE<;>cases d.neg<;>rfl
theorem zrK{sg ng:Bool}{s:uBp}:(wP sg ng s).length=s.length/2+1:=by unfold wP;obtain⟨h1,h2⟩:=zpf s;rw[znu _ _ h1,h2];omega
theorem zsu{s:uBp}(hd:Digs s):pdig (s.map fun c=>UInt8.ofNat (c.toNat-48))=s:=by
 unfold pdig;rw[List.map_map];conv=>rhs;rw[<-List.map_id s]
 refine uAv fun c hc=>?_
 have h:=hd c hc;show UInt8.ofNat ((UInt8.ofNat (c.toNat-48)).toNat+48)=c;apply UInt8.toNat_inj.1;rw[UInt8.toNat_ofNat',UInt8.toNat_ofNat'];omega
theorem zxH{sg ng:Bool}{n:Nat}{s:uBp}(hs:s.length=n)(hd:Digs s):rP sg n (wP sg ng s)=(digits.mk (sg&&ng) s,true):=by
 obtain⟨h1,h2⟩:=zpf s;have hod:=zsz hd;have hlen:=zrK (sg:=sg) (ng:=ng) (s:=s);obtain⟨l,hl,hl16⟩:∃l:UInt8,l=(if sg then(if ng then 13 else 12)else 15)/\l.toNat<16:=⟨_,rfl,by cases sg<;>cases ng<;>decide⟩
 have hnib:nib (wP sg ng s)=((odd s).map fun c=>UInt8.ofNat (c.toNat-48))++[l]:=by unfold wP;rw[<-hl];exact zsB hl16 _ h1 hod
 have hm:2*(wP sg ng s).length-1=(odd s).length:=by omega
 unfold rP;rw[hm,hnib];have e1:(((odd s).map fun c=>UInt8.ofNat (c.toNat-48))++[l]).take (odd s).length=(odd s).map fun c=>UInt8.ofNat (c.toNat-48):=by rw[uAe (by simp),nF (by simp)]
 have e2:(((odd s).map fun c=>UInt8.ofNat (c.toNat-48))++[l]).getD (odd s).length 0=l:=by rw[mE,nK (by simp)];simp
 rw[e1,e2,zsu hod];have hall:∀c∈(odd s).map fun c=>UInt8.ofNat (c.toNat-48),c.toNat<=9:=by intro x hx;obtain⟨c,hc,rfl⟩:=uAw.1 hx;have:=hod c hc;rw[UInt8.toNat_ofNat'];omega
 rw[if_pos hall];have e3:(odd s).drop ((odd s).length-n)=s:=by
  unfold odd;split
  ·rw[mI,hs,show n+1-n=1 by omega,List.drop_one,List.tail_cons]
  ·rw[hs,uA3,nS]
 have e4:val ((odd s).take ((odd s).length-n))=0:=by
  unfold odd;split
  ·rw[mI,hs,show n+1-n=1 by omega];rfl
  ·rw[hs,uA3,uAP];rfl
 rw[e3,e4,hl];cases sg<;>cases ng<;>simp[zcn]<;>decide
end Go.Proofs.C06
end
section
set_option maxRecDepth 100000
namespace Go.Proofs.C06
open Go Go.RowKit Go.Vc Go.Am Go.Dg
def bev(l:uBp):Nat:=l.foldl (fun a c=>256*a+c.toNat) 0
theorem Vo(l:uBp)(c:UInt8):bev (l++[c])=256*bev l+c.toNat:=by unfold bev;rw[List.foldl_append];rfl
theorem jU{b:uBp}{i:Nat}(h:i<b.length):b.take (i+1)=b.take i++[b.getD i 0]:=by rw[uBn,mC h,mE,mC h];rfl
theorem zoE(b:uBp):∀n,n<=b.length->bev (b.take n)<256^n
 |0,_=>by simp[bev]
 |n+1,h=>by have ih:=zoE b n (by omega);have hc:=za1 (b.getD n 0);rw[jU (by omega),Vo,uAL];omega
def be:Nat->Nat->uBp
 |0,_=>[]
 |k+1,v=>be k (v/256)++[UInt8.ofNat (v%256)]
theorem zaG:∀k v,(be k v).length=k
 |0,_=>rfl
 |k+1,v=>by rw[be,mM,zaG k];rfl
theorem ztT:∀k v,bev (be k v)=v%256^k
 |0,v=>by simp[be,bev,Nat.mod_one]
 |k+1,v=>by
  have e:(UInt8.ofNat (v%256)).toNat=v%256:=by rw[UInt8.toNat_ofNat'];omega
  rw[be,Vo,ztT k,e,uAL,uA7 (256^k) 256,Nat.mod_mul];omega
theorem ztV:∀(k v i:Nat),i<k->(be k v).getD i 0=UInt8.ofNat (v/256^(k-1-i)%256)
 |0,_,i,h=>by omega
 |k+1,v,i,h=>by
  rw[be];by_cases hi:i<k
  ·rw[mE,mW (by rw[zaG];exact hi),<-mE,ztV k _ i hi,Nat.div_div_eq_div_mul,<-Nat.pow_succ',show(k-1-i).succ=k+1-1-i by omega]
  ·have:i=k:=by omega
   subst this;rw[mE,nK (by rw[zaG];omega),zaG,uA3,show i+1-1-i=0 by omega,nH,Nat.div_one];rfl
theorem zh0:∀(t m:Nat),fmt (t+1) m=UInt8.ofNat (48+m/10^t%10)::fmt t m
 |0,m=>by simp[fmt]
 |t+1,m=>by rw[fmt,zh0 t (m/10),nU,Nat.div_div_eq_div_mul,<-Nat.pow_succ'];rfl
def rB(sg:Bool)(D:Nat)(b:uBp):digits×Bool:=(digits.mk (sg&&decide (128<=(b.getD 0 0).toNat)) (fmt D (if sg&&decide (128<=(b.getD 0 0).toNat)then 256^b.length-bev b else bev b)),decide ((if sg&&decide (128<=(b.getD 0 0).toNat)then 256^b.length-bev b else bev b)<10^D))
theorem Wz{N:Nat}{D m:Nat}(hD:D<=100)(hm:m<18446744073709551616)(ng:Bool)(b0:digits):∀(k t:Nat),t<=D->D-t<k->
  JF N k ((m/10^t:Nat):Int) ng (fmt t m) (D:Int) (t:Int) b0=some (digits.mk ng (fmt D m),decide (m<10^D))
 |0,t,_,hk=>by omega
 |k+1,t,ht,hk=>by
  show QZ N (JF N k) ((m/10^t:Nat):Int) ng (fmt t m) (D:Int) (t:Int) b0=_;unfold QZ;rw[zb];have hle:m/10^t<=m:=Nat.div_le_self _ _;by_cases h1:t<D
  ·have e0:(zf ((m/10^t:Nat):Int)&&decide (0<10))=true:=by unfold zf;rw[decide_eq_true (Int.natCast_nonneg _)];rfl
   have e1:((m/10^t:Nat):Int)%10=((m/10^t%10:Nat):Int):=by omega
   have e2:((m/10^t:Nat):Int)/10=((m/10^(t+1):Nat):Int):=by rw[uAL,<-Nat.div_div_eq_div_mul];omega
   have hlt:m/10^t%10<10:=uBa _ (by decide);have hw:IntKind.wrap .u64 (((m/10^t%10:Nat):Int)+1)=((m/10^t%10:Nat):Int)+1:=by rw[wrap_u64];omega
   have hsub:Vc.sub ([48,49,50,51,52,53,54,55,56,57]:uBp) ((m/10^t%10:Nat):Int) (((m/10^t%10:Nat):Int)+1)=[UInt8.ofNat (48+m/10^t%10)]:=by
    have:∀q:Fin 10,Vc.sub ([48,49,50,51,52,53,54,55,56,57]:uBp) ((q.val:Nat):Int) (((q.val:Nat):Int)+1)=[UInt8.ofNat (48+q.val)]:=by decide
    exact this ⟨m/10^t%10,hlt⟩
   have hin:zm ((m/10^t%10:Nat):Int) (((m/10^t%10:Nat):Int)+1) ([48,49,50,51,52,53,54,55,56,57]:uBp).length=true:=by unfold zm;simp<;>omega
   have hu:zd .u64 ((m/10^(t+1):Nat):Int)=true:=yA.2 ⟨Int.natCast_nonneg _,by
    show _<=(18446744073709551615:Int);have h:=Nat.div_le_self m (10^(t+1));generalize m/10^(t+1)=q at h⊢;omega⟩
   have e3:[UInt8.ofNat (48+m/10^t%10)]++fmt t m=fmt (t+1) m:=(zh0 t m).symm;rw[if_pos (by omega),e0,za,za,e1,hw,hin,za,hsub,jc (by rw[zW];simp;omega),za,uAp,e2,hu,za,zh (by omega) (by omega),za,e3,show(t:Int)+1=((t+1:Nat):Int)by omega];exact Wz hD hm ng b0 k (t+1) (by omega) (by omega)
  ·have htD:t=D:=by omega
   subst htD;rw[if_neg (by omega)];congr 2;rw[decide_eq_decide];have hp:=pow_pos t;constructor
   ·intro h;have h:m/10^t=0:=by omega
    rcases Nat.div_eq_zero_iff.1 h with h|h
    ·omega
    ·exact h
   ·intro h;rw[uA6 h];rfl
theorem Zt{N:Nat}(hN:3000<N){f:form}{D m:Nat}(hfD:f.uA=(D:Int))(hD:D<=100)(hm:m<18446744073709551616)(ng:Bool)(b0:digits):Zd N (m:Int) ng f b0=some (digits.mk ng (fmt D m),decide (m<10^D)):=by unfold Zd;rw[hfD];have:=Wz (N:=N) hD hm ng b0 N 0 (by omega) (by omega);rw[nH,Nat.div_one]at this;exact this
theorem zkM{b:uBp}(h:1<=b.length):∀n,1<=n->n<=b.length->bev (b.take n)/256^(n-1)=(b.getD 0 0).toNat
 |0,h0,_=>by omega
 |1,_,_=>by rw[jU (by omega),uAP,Vo];simp[bev]
 |n+2,_,hn=>by have ih:=zkM h (n+1) (by omega) (by omega);have hc:=za1 (b.getD (n+1) 0);rw[jU (by omega),Vo,show n+2-1=(n+1-1)+1 by omega,Nat.pow_succ',<-Nat.div_div_eq_div_mul,show(256*bev (b.take (n+1))+(b.getD (n+1) 0).toNat)/256=bev (b.take (n+1))by omega];exact ih
theorem WA{N:Nat}(hN:3000<N){f:form}{D:Nat}{b:uBp}(hfD:f.uA=(D:Int))(hD:D<=100)(hb:b.length=2\/b.length=4\/b.length=8)(d:digits):∀(k t:Nat),t<=b.length->b.length-t<k->
  JG N k b ((bev (b.take t):Nat):Int) b (b.length:Int) (t:Int) f d=some (rB f.uE D b)
 |0,t,_,hk=>by omega
 |k+1,t,ht,hk=>by
  show Q0 N (JG N k) b ((bev (b.take t):Nat):Int) b (b.length:Int) (t:Int) f d=_;unfold Q0;rw[zb];by_cases h1:t<b.length
  ·have hlt:=zoE b t (by omega);have hlt7:bev (b.take t)<72057594037927936:=uAJ hlt (by have:=nR (show 0<256 by decide) (show t<=7 by omega);simpa using this);have hc:=za1 (b.getD t 0);have e1:((bev (b.take t):Nat):Int)*2^(Int.toNat 8)=((256*bev (b.take t):Nat):Int):=by show((bev (b.take t):Nat):Int)*256=_;omega
   have e2:bits .or .u64 (IntKind.wrap .u64 (((bev (b.take t):Nat):Int)*2^(Int.toNat 8))) (IntKind.wrap .u64 (((b.getD t 0).toNat:Nat):Int))=((bev (b.take (t+1)):Nat):Int):=by rw[e1,wrap_u64,wrap_u64,zws (by omega) (by omega) (by omega),jU h1,Vo];omega
   rw[if_pos (by omega),zO h1,za,zh (by omega) (by omega),za,zH,e2,show(t:Int)+1=((t+1:Nat):Int)by omega];exact WA hN hfD hD hb d k (t+1) (by omega) (by omega)
  ·have htb:t=b.length:=by omega
   subst htb;have hlt:=zoE b b.length (mG _);have htop:=zkM (b:=b) (by omega) b.length (by omega) (mG _);rw[uAx]at hlt htop⊢;rw[if_neg (by omega),zO (show 0<b.length by omega)|>fun h=>(show zn 0 b.length=true from h),za];have eb:byteAt b 0=(((b.getD 0 0).toNat:Nat):Int):=rfl;have e128:((128:Int)<=(((b.getD 0 0).toNat:Nat):Int))↔128<=(b.getD 0 0).toNat:=by omega
   have hno:∀ng,ng=false->Ze N b ((bev b:Nat):Int) ng f d=some (digits.mk false (fmt D (bev b)),decide (bev b<10^D)):=by rintro _ rfl;unfold Ze;rw[cond_false];refine Zt hN hfD hD ?_ _ _;rcases hb with h|h|h<;>rw[h]at hlt<;>omega
   unfold rB;cases f.uE with
   |false=>rw[cond_false,hno _ rfl];simp
   |true=>
    rw[cond_true,eb];by_cases hg:128<=(b.getD 0 0).toNat
    ·rw[decide_eq_true (e128.2 hg),decide_eq_true hg];simp only[uAA,if_true];unfold Ze;rw[cond_true,zb];rcases hb with h|h|h
     ·rw[h]at hlt htop⊢;have w1:IntKind.wrap .u64 (-((bev b:Nat):Int))=18446744073709551616-((bev b:Nat):Int):=by rw[wrap_u64];omega
      have w2:IntKind.wrap .u64 (IntKind.wrap .u64 (1*2^(8*((2:Nat):Int)).toNat)-1)=((2^16-1:Nat):Int):=by decide
      have w3:bits .and .u64 (18446744073709551616-((bev b:Nat):Int)) ((2^16-1:Nat):Int)=((256^2-bev b:Nat):Int):=by rw[Je (by decide),wrap_u64];omega
      rw[if_pos (by decide),zh (by decide) (by decide),za,show(zf (8*((2:Nat):Int))&&Nat.ble (8*((2:Nat):Int)).toNat 64)=true by decide,za,w1,w2,w3];exact Zt hN hfD hD (by omega) _ _
     ·rw[h]at hlt htop⊢;have w1:IntKind.wrap .u64 (-((bev b:Nat):Int))=18446744073709551616-((bev b:Nat):Int):=by rw[wrap_u64];omega
      have w2:IntKind.wrap .u64 (IntKind.wrap .u64 (1*2^(8*((4:Nat):Int)).toNat)-1)=((2^32-1:Nat):Int):=by decide
      have w3:bits .and .u64 (18446744073709551616-((bev b:Nat):Int)) ((2^32-1:Nat):Int)=((256^4-bev b:Nat):Int):=by rw[Je (by decide),wrap_u64];omega
      rw[if_pos (by decide),zh (by decide) (by decide),za,show(zf (8*((4:Nat):Int))&&Nat.ble (8*((4:Nat):Int)).toNat 64)=true by decide,za,w1,w2,w3];exact Zt hN hfD hD (by omega) _ _
     ·rw[h]at hlt htop⊢;have w1:IntKind.wrap .u64 (-((bev b:Nat):Int))=((256^8-bev b:Nat):Int):=by rw[wrap_u64];omega
      rw[if_neg (by decide),w1];exact Zt hN hfD hD (by omega) _ _
    ·rw[decide_eq_false (fun h=>hg (e128.1 h)),decide_eq_false hg,hno _ rfl];simp
theorem zm4{N:Nat}(hN:3000<N){f:form}{D:Nat}{b:uBp}(hfD:f.uA=(D:Int))(hD:D<=100)(hb:b.length=2\/b.length=4\/b.length=8):za0 N f b=some (rB f.uE D b):=by unfold za0;exact WA hN hfD hD hb _ N 0 (by omega) (by omega)
def wB(k:Nat)(ng:Bool)(s:uBp):uBp:=be k (if ng then(18446744073709551616-val s)%18446744073709551616 else val s)
theorem XS{N:Nat}{f:form}{x k:Nat}(hk:f.uG=(k:Int))(hk8:k<=8):∀(n t:Nat),t<=k->k-t<n->
  qL N n (x:Int) (k:Int) (t:Int) f ((be k x).take t++List.replicate (k-t) 0)=some (be k x)
 |0,t,_,hn=>by omega
 |n+1,t,ht,hn=>by
  have hl:=zaG k x;show JB N (qL N n) (x:Int) (k:Int) (t:Int) f _=_;unfold JB;rw[zb];by_cases h1:t<k
  ·have hlen:((be k x).take t++List.replicate (k-t) (0:UInt8)).length=k:=by rw[mM,mH,mN];omega
   have e1:(f.uG-1)-(t:Int)=((k-1-t:Nat):Int):=by omega
   have e2:(8:Int)*((k-1-t:Nat):Int)=((8*(k-1-t):Nat):Int):=by omega
   have e3:(zf ((8*(k-1-t):Nat):Int)&&Nat.ble (((8*(k-1-t):Nat):Int)).toNat 64)=true:=by rw[mP,mX (by omega),uAg];exact decide_eq_true (by omega)
   have e4:(x:Int)/2^(((8*(k-1-t):Nat):Int)).toNat=((x/256^(k-1-t):Nat):Int):=by
    have e:(2:Int)^(8*(k-1-t))=((256^(k-1-t):Nat):Int):=by
     rw[show(256:Nat)=2^8 from rfl,<-Nat.pow_mul]
     norm_cast
    rw[mP,e,<-Int.natCast_ediv]
   have e5:IntKind.wrap .u8 ((x/256^(k-1-t):Nat):Int)=((x/256^(k-1-t)%256:Nat):Int):=by rw[zaQ];omega
   rw[if_pos (by omega),zh (by omega) (by omega),za,e1,zh (by omega) (by omega),za,e2,zh (by omega) (by omega),za,e3,za,zO (by omega),za,e4,e5,ZM (by omega) (by omega),uAA,za,
    zh (by omega) (by omega),za,mP,Y5,<-ztV k x t h1,zlX h1 hl,show(t:Int)+1=((t+1:Nat):Int)by omega]
   exact XS hk hk8 n (t+1) (by omega) (by omega)
  ·have:t=k:=by omega
   subst this;rw[if_neg (by omega),uA3,List.replicate_zero,mV,nF (by omega)]
theorem XU{N:Nat}(hN:3000<N){f:form}{x k:Nat}(hk:f.uG=(k:Int))(hk8:k<=8):qN N (x:Int) f=some (be k x):=by
 unfold qN;have e2:zbi 1 (k:Int)=true:=by show(Nat.ble (1*k) 281474976710656&&Nat.ble k 9223372036854775807)=true;rw[mX (by omega),mX (by omega)];rfl
 rw[hk,e2,decide_eq_true rfl,uAA,za,mP,mN];have:=XS (N:=N) (x:=x) hk hk8 N 0 (by omega) (by omega);rw[uAP,nX,Nat.sub_zero]at this;exact this
theorem XT{N:Nat}(hN:3000<N){f:form}{d:digits}{k:Nat}(hk:f.uG=(k:Int))(hk8:k<=8)(hs:d.s.length<=18)(hd:Digs d.s):∀(n t:Nat),t<=d.s.length->d.s.length-t<n->
  qM N n ((val (d.s.take t):Nat):Int) (d.s.length:Int) (t:Int) f d=some (wB k d.neg d.s)
 |0,t,_,hn=>by omega
 |n+1,t,ht,hn=>by
  show JC N (qM N n) ((val (d.s.take t):Nat):Int) (d.s.length:Int) (t:Int) f d=_;unfold JC;rw[zb];have hv:=j9 (hd.take t);have hv18:val (d.s.take t)<1000000000000000000:=uAJ hv (by
   have:=nR (show 0<10 by decide) (show(d.s.take t).length<=18 by rw[mH];omega);simpa using this)
  by_cases h1:t<d.s.length
  ·have hc:=yQ hd h1;have e1:(((d.s.getD t 0).toNat:Nat):Int)-48=(((d.s.getD t 0).toNat-48:Nat):Int):=by omega
   have e2:IntKind.wrap .u64 (IntKind.wrap .u64 (10*((val (d.s.take t):Nat):Int))+IntKind.wrap .u64 (IntKind.wrap .u8 ((((d.s.getD t 0).toNat:Nat):Int)-48)))=((val (d.s.take (t+1)):Nat):Int):=by rw[e1,jG (by omega) (by omega),wrap_u64,wrap_u64,wrap_u64,jU h1,Jy];omega
   rw[if_pos (by omega),zO h1,za,zh (by omega) (by omega),za,zH,e2,show(t:Int)+1=((t+1:Nat):Int)by omega];exact XT hN hk hk8 hs hd n (t+1) (by omega) (by omega)
  ·have:t=d.s.length:=by omega
   subst this;rw[uAx]at hv18⊢;rw[if_neg (by omega)];unfold wB;cases d.neg with
   |true=>
    have e:IntKind.wrap .u64 (-((val d.s:Nat):Int))=(((18446744073709551616-val d.s)%18446744073709551616:Nat):Int):=by rw[wrap_u64];omega
    rw[cond_true,e,XU hN hk hk8];rfl
   |false=>rw[cond_false,XU hN hk hk8];rfl
theorem ziF{N:Nat}(hN:3000<N){f:form}{d:digits}{k:Nat}(hk:f.uG=(k:Int))(hk8:k<=8)(hs:d.s.length<=18)(hd:Digs d.s):Jk N f d=some (wB k d.neg d.s):=by unfold Jk;have:=XT (N:=N) hN hk hk8 hs hd N 0 (by omega) (by omega);rw[uAP]at this;exact this
theorem zv4{k:Nat}{ng:Bool}{s:uBp}:(wB k ng s).length=k:=zaG _ _
def binW(n:Nat):Nat:=if n<=4 then 2 else if n<=9 then 4 else 8
theorem zxI{sg ng:Bool}{n:Nat}{s:uBp}(hn:n<=18)(hs:s.length=n)(hd:Digs s)(hsg:ng=true->sg=true/\val s≠0):rB sg n (wB (binW n) ng s)=(digits.mk ng s,true):=by
 have hv:=j9 hd;rw[hs]at hv;have hf:fmt n (val s)=s:=by rw[<-hs];exact zpD hd
 have hbound:binW n=2/\val s<10000\/binW n=4/\val s<1000000000\/binW n=8/\val s<1000000000000000000:=by
  unfold binW;have hle:∀m,n<=m->val s<10^m:=fun m hm=>uAJ hv (nR (by decide) hm)
  by_cases h4:n<=4
  ·rw[if_pos h4];exact .inl ⟨rfl,by simpa using hle 4 h4⟩
  ·rw[if_neg h4];by_cases h9:n<=9
   ·rw[if_pos h9];exact .inr (.inl ⟨rfl,by simpa using hle 9 h9⟩)
   ·rw[if_neg h9];exact .inr (.inr ⟨rfl,by simpa using hle 18 hn⟩)
 have key:∀(k x:Nat),1<=k->(be k x).getD 0 0=UInt8.ofNat (x/256^(k-1)%256):=fun k x h=>ztV k x 0 (by omega)
 have kb:∀(k x:Nat),1<=k->((be k x).getD 0 0).toNat=x/256^(k-1)%256:=fun k x h=>by rw[key k x h,UInt8.toNat_ofNat'];omega
 unfold rB wB;rw[ztT,zaG];cases ng with
 |false=>
  have h0:¬128<=((be (binW n) (val s)).getD 0 0).toNat:=by rcases hbound with⟨hk,hb⟩|⟨hk,hb⟩|⟨hk,hb⟩<;>rw[hk,kb _ _ (by decide)]<;>simp<;>omega
  have h1:val s%256^binW n=val s:=uAn (by rcases hbound with⟨hk,hb⟩|⟨hk,hb⟩|⟨hk,hb⟩<;>rw[hk]<;>omega);simp only[nC,if_false,decide_eq_false h0,Bool.and_false,h1,hf,decide_eq_true hv]
 |true=>
  obtain⟨rfl,h00⟩:=hsg rfl;have hx:(18446744073709551616-val s)%18446744073709551616=18446744073709551616-val s:=by rcases hbound with⟨hk,hb⟩|⟨hk,hb⟩|⟨hk,hb⟩<;>omega
  have h0:128<=((be (binW n) (18446744073709551616-val s)).getD 0 0).toNat:=by rcases hbound with⟨hk,hb⟩|⟨hk,hb⟩|⟨hk,hb⟩<;>rw[hk,kb _ _ (by decide)]<;>simp<;>omega
  have h1:256^binW n-(18446744073709551616-val s)%256^binW n=val s:=by rcases hbound with⟨hk,hb⟩|⟨hk,hb⟩|⟨hk,hb⟩<;>rw[hk]<;>omega
  simp only[if_true,hx,decide_eq_true h0,uAA,h1,hf,decide_eq_true hv]
end Go.Proofs.C06
end
section
set_option maxRecDepth 100000
namespace Go.Proofs.C06
open Go Go.RowKit Go.Vc Go.Am Go.Dg
theorem WG(N:Nat)(neg:Bool)(b:Decimal):∀(m n:Nat)(l:uBp)(s:Nat),s=m->m<n->Digs l->(∃c r,l=c::r/\c≠48)->l.length<=2000->s<=2000->
  JV N n neg l (s:Int) b=some (Decimal.mk neg (dstr (zK s (val l)).1) ((zK s (val l)).2:Int))
 |m,0,l,s,hm,hn,_,_,_,_=>by omega
 |m,n+1,l,s,hm,hn,hd,⟨c,r,hcr,hc⟩,hl,hs=>by
  have hself:dstr (val l)=l:=zjW hd fun c' r' h=>by rw[hcr]at h;cases h;exact hc
  show Xd N (JV N n) neg l (s:Int) b=_;unfold Xd;rw[zb];cases s with
  |zero=>rw[if_neg (by omega)];simp only[zK,hself]
  |succ q=>
   rcases List.eq_nil_or_concat l with h0|⟨t,x,h0⟩
   ·rw[h0]at hcr;cases hcr
   ·rw[List.concat_eq_append]at h0;subst h0;rw[mM]at hl;simp only[mI,uAX]at hl;rw[Digs.append,Digs.cons]at hd;have hv:=Jy t x;have hx:=hd.2.1;have e1:(((t++[x]).length:Int)-1)=(t.length:Int):=by simp
    have hat:byteAt (t++[x]) (t.length:Int)=((x.toNat:Nat):Int):=by unfold byteAt;rw[mP,mE,nK (mG _),uA3];rfl
    have h48:(((x.toNat:Nat):Int)=48)↔x=48:=zes (k:=48) (by decide);rw[if_pos (by omega),e1,zh (by omega) (by omega),za,zO (by simp),za,hat,zb];by_cases hx0:x=48
    ·have ht:∃c r,t=c::r/\c≠48:=by
      cases t with
      |nil=>cases hcr;exact absurd hx0 hc
      |cons c' r'=>cases hcr;exact⟨_,_,rfl,hc⟩
     have hin:zm 0 (t.length:Int) (t++[x]).length=true:=by unfold zm;simp<;>omega
     have e3:js (t++[x]) (t.length:Int)=t:=by unfold js;simp
     have e4:zK (q+1) (val (t++[x]))=zK q (val t):=by subst hx0;rw[hv,zK,if_pos (by simp)];congr 1;simp
     rw[if_pos (h48.2 hx0),za,hin,za,show((q+1:Nat):Int)-1=(q:Int)by omega,zh (by omega) (by omega),za,e3,
      WG N neg b q n t q rfl (by omega) hd.1 ht (by omega) (by omega),e4]
    ·have hx1:x.toNat≠48:=fun e=>hx0 (UInt8.toNat_inj.1 e)
     have e4:zK (q+1) (val (t++[x]))=(val (t++[x]),q+1):=by rw[zK,if_neg (by rw[hv];omega)]
     rw[if_neg (fun h=>hx0 (h48.1 h)),e4,hself]
theorem WH{N:Nat}(hN:3000<N)(neg:Bool){l:uBp}(hd:Digs l)(hl:l.length<=2000){s:Nat}(hs:s<=2000)(h0:l=[]\/∃c r,l=c::r/\c≠48)(b:Decimal):
  JW N neg l (s:Int) b=some (yS (canon neg (val l) s)):=by
 unfold JW;rw[zb];rcases h0 with rfl|⟨c,r,hcr,hc⟩
 ·rw[if_pos rfl];rw[zix,jy];rfl
 ·rw[if_neg (by rw[hcr];simp),WG N neg b s N l s rfl (by omega) hd ⟨c,r,hcr,hc⟩ hl hs];have hv:val l≠0:=fun e=>by have:=(W6 hd).2 e;rw[hcr,zd9,if_neg hc]at this;cases this
  unfold canon;rw[if_neg hv];rfl
theorem WF{N:Nat}(hN:3000<N)(neg:Bool){s:Nat}(hs:s<=2000)(b:Decimal):∀(n:Nat)(l:uBp),l.length<n->Digs l->l.length<=2000->
  JU N n neg l (s:Int) b=some (yS (canon neg (val l) s))
 |0,l,h,_,_=>by omega
 |n+1,l,h,hd,hl=>by
  show Xc N (JU N n) neg l (s:Int) b=_;unfold Xc;rw[zb];cases l with
  |nil=>rw[if_neg (by simp)];exact WH hN neg hd hl hs (.inl rfl) b
  |cons c r=>
   have h48:(((c.toNat:Nat):Int)=48)↔c=48:=zes (k:=48) (by decide);have eb:byteAt (c::r) 0=((c.toNat:Nat):Int):=rfl;have hin0:zn 0 (c::r).length=true:=zO (i:=0) (by simp);simp only[mI]at h hl;rw[if_pos (by simp<;>omega),hin0,za,eb,zb];by_cases hc:c=48
   ·have hin:zm 1 ((c::r).length:Int) (c::r).length=true:=by unfold zm;simp<;>omega
    have ed:zX (c::r) 1=r:=rfl;rw[if_pos (h48.2 hc),hin,za,ed,WF hN neg hs b n r (by omega) (Digs.cons.1 hd).2 (by omega)];subst hc;rw[qG];simp
   ·rw[if_neg (fun h=>hc (h48.1 h))];exact WH hN neg hd (by simp<;>omega) hs (.inr ⟨c,r,rfl,hc⟩) b
theorem zfx{N:Nat}(hN:3000<N)(neg:Bool){l:uBp}(hd:Digs l)(hl:l.length<=2000){s:Nat}(hs:s<=2000):zek N neg l (s:Int)=some (yS (canon neg (val l) s)):=by unfold zek;exact WF hN neg hs _ N l (by omega) hd hl
theorem zbo{N:Nat}(hN:3000<N)(neg:Bool){sc:Int}(hs1: -1000<=sc)(hs:sc<=1000)(b:Decimal):∀(n k:Nat)(l:uBp),k<n->k<=1000->Digs l->l.length+k<=2000->((0<= -(k:Int)->k=0))->
  Jn N n neg l sc (-(k:Int)) b=some (yS (canon neg (val l*10^k) sc.toNat))
 |0,k,_,h,_,_,_,_=>by omega
 |n+1,k,l,h,hk,hd,hl,_=>by
  show ZK N (Jn N n) neg l sc (-(k:Int)) b=_;unfold ZK;rw[zb];cases k with
  |zero=>
   have e:jA sc 0=((sc.toNat:Nat):Int):=by unfold jA;split<;>omega
   rw[if_neg (by omega),e,zfx hN neg hd (by omega) (by omega),zc,nH,mQ]
  |succ k=>
   have e: -((k+1:Nat):Int)+1= -(k:Int):=by omega
   rw[if_pos (by omega),jc (by simp;omega),za,zh (by omega) (by omega),za,e,
    zbo hN neg hs1 hs b n k (l++[48]) (by omega) (by omega) (Digs.append.2 ⟨hd,by decide⟩) (by simp;omega) (by omega),Jy,uAL]
   have:(10*val l+((48:UInt8).toNat-48))*10^k=val l*(10^k*10):=by rw[show(48:UInt8).toNat-48=0 from rfl,uAf,uA7 10,nL,uA7 10]
   rw[this]
theorem zqM{N:Nat}(hN:3000<N)(neg:Bool){l:uBp}(hd:Digs l)(hl:l.length<=500){sc:Int}(hs1: -1000<=sc)(hs:sc<=1000):zcv N neg l sc=some (yS (canon neg (val l*10^(-sc).toNat) sc.toNat)):=by
 unfold zcv;by_cases h:sc<=0
 ·have e:sc= -((-sc).toNat:Int):=by omega
  have:=zbo (N:=N) hN neg hs1 hs (Decimal.mk false [] 0) N (-sc).toNat l (by omega) (by omega) hd (by omega) (by omega);rw[<-e]at this;exact this
 ·obtain⟨M,rfl⟩:∃M,N=M+1:=⟨N-1,by omega⟩
  show ZK (M+1) (Jn (M+1) M) neg l sc sc _=_;unfold ZK;have e:jA sc 0=((sc.toNat:Nat):Int):=by unfold jA;split<;>omega
  have e2:(-sc).toNat=0:=by omega
  rw[zb,if_neg (by omega),e,zfx hN neg hd (by omega) (by omega),zc,e2,nH,mQ]
end Go.Proofs.C06
end
section
set_option maxRecDepth 100000
namespace Go.Proofs.C06
open Go Go.RowKit Go.Vc Go.Am Go.Dg
end Go.Proofs.C06
end
section
set_option maxRecDepth 100000
namespace Go.Proofs.C06
open Go Go.RowKit Go.Vc Go.Am Go.Dg
theorem zdm{N:Nat}{x:F}{n:Nat}(hn:x.uA%18=(n:Int))(h0:0<=x.uA)(h18:n<18):∀(k i:Nat)(s:uBp),i<=n+1->n+1-i<k->Digs s->s.length=i->
  ∃l,ZO N k s (i:Int) x=some l/\Digs l/\l.length=n+1
 |0,i,s,_,hk,_,_=>by omega
 |k+1,i,s,hi,hk,hs,hl=>by
  show∃l,zar N (ZO N k) s (i:Int) x=some l/\_;unfold zar;have e0:(zf x.uA&&decide (0<18))=true:=by simp[zf,h0]
  rw[e0,za,hn,zh (by omega) (by omega),za,zb];by_cases h:i<n+1
  ·have step:∀d:Nat,d<10->∃l,K0 N (ZO N k) s (i:Int) (d:Int) x=some l/\Digs l/\l.length=n+1:=by intro d hd;unfold K0;have hdg:=zcL hd;rw[show(48:Int)+(d:Int)=((48+d:Nat):Int)by omega,jG (by omega) (by omega),ZM (by omega) (by omega),uAA,za];show∃l,(chk (jh s [toByte ((48+d:Nat):Int)])<|chk (zd .i64 ((i:Int)+1))<|ZO N k (s++[toByte ((48+d:Nat):Int)]) ((i:Int)+1) x)=some l/\_;rw[Y5,jc (by simp;omega),za,zh (by omega) (by omega),za,show(i:Int)+1=((i+1:Nat):Int)by omega];refine zdm hn h0 h18 k (i+1) _ (by omega) (by omega) (Digs.append.2 ⟨hs,?_⟩) (by simp;omega);intro c hc;rw[mL]at hc;rw[hc,hdg];omega
   rw[if_pos (by omega),zb];by_cases c:i<x.Value.length
   ·have e1:(zf ((((x.Value.getD i 0).toNat:Nat):Int))&&decide (0<10))=true:=by simp[zf]
    rw[if_pos (by omega),zO c,za,zH,e1,za,show(((x.Value.getD i 0).toNat:Nat):Int)%10=(((x.Value.getD i 0).toNat%10:Nat):Int)by omega];exact step _ (uBa _ (by decide))
   ·rw[if_neg (by omega)];exact step 0 (by decide)
  ·rw[if_neg (by omega)];exact⟨s,rfl,hs,by omega⟩
theorem ztg{N:Nat}(hN:3000<N){x:F}(h0:0<=x.uA):∃l,zh2 N x=some l/\Digs l/\l.length=x.uA.toNat%18+1:=by unfold zh2;exact zdm (n:=x.uA.toNat%18) (by omega) h0 (by omega) N 0 [] (by omega) (by omega) Digs.nil rfl
end Go.Proofs.C06
end
