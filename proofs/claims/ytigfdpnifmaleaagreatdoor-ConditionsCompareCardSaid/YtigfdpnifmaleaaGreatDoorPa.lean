/-
  A part of the proof of the laws.
-/
import Derived.Test.YtigfdpnifmaleaaGreatDoorAm1
import Derived.Test.YtigfdpnifmaleaaGreatDoorS2
section
namespace Go.Proofs.C06
open Go Go.RowKit Go.Vc Go.Am
theorem zn{n:Int}(h1: -9223372036854775808<=n)(h2:n<=9223372036854775807):inKb .i64 n=true:=
 yh.2 ⟨h1,h2⟩
theorem zb{α:Type}{p:Prop}[Decidable p]{a b:α}:cond (decide p) a b=if p then a else b:=by by_cases h:p<;>simp[h]
theorem zg{α:Type}{p:Prop}[Decidable p]{a b:α}:cond (!decide p) a b=if p then b else a:=by by_cases h:p<;>simp[h]
end Go.Proofs.C06
end
section
set_option maxRecDepth 100000
namespace Go.Proofs.C06
open Go Go.RowKit Go.Vc Go.Am
theorem jx{i n:Nat}(h:i<n):inIx (i:Int) n=true:=zw.2 ⟨by omega,by omega⟩
theorem zK(s:uBl)(i:Nat):byteAt s (i:Int)=((s.getD i 0).toNat:Int):=rfl
theorem VK{s:uBl}{i:Nat}(h:i<s.length):s.getD i 0=s[i]:=by rw[mI,mG h];rfl
theorem jb{s:uBl}{i:Nat}(h:i<s.length):s.drop i=s.getD i 0::s.drop (i+1):=by rw[uAy h,VK h]
theorem WN(c:UInt8):((c.toNat:Int).toNat.toUInt8)=c:=by simp
theorem Yz{a b:UInt8}:((a.toNat:Int)=(b.toNat:Int))↔a=b:=by rw[Int.ofNat_inj,UInt8.toNat_inj]
def cnt(set s:uBl):Nat:=(s.takeWhile (set.contains ·)).length
theorem zqW(set:uBl):cnt set []=0:=rfl
theorem j3(set:uBl)(c:UInt8)(s:uBl):cnt set (c::s)=if set.contains c then cnt set s+1 else 0:=by unfold cnt;rw[List.takeWhile_cons];split<;>simp_all
theorem YR(set s:uBl):cnt set s<=s.length:=by unfold cnt;exact List.Sublist.length_le (List.takeWhile_sublist _)
theorem jC(c:UInt8):∀l:uBl,(0<=Lib.indexByte l c)↔l.contains c=true
 |[]=>by simp[Lib.indexByte]
 |b::l=>by
  have ih:=jC c l;have hg:=Lib.indexByte_ge l c;unfold Lib.indexByte;by_cases hb:b=c
  ·subst hb;simp
  ·have hb':¬(c=b):=fun e=>hb e.symm
   by_cases hm:Lib.indexByte l c= -1
   ·have:¬(0<=Lib.indexByte l c):=by omega
    rw[ih]at this;simp only[nX];simp[hb,hb',hm];simpa using this
   ·have h0:0<=Lib.indexByte l c:=by omega
    have h1:=ih.1 h0;simp only[nX];simp[hb,hb',hm];exact⟨fun _=>by simpa using h1,fun _=>by omega⟩
theorem zaY(N:Nat)(c:UInt8)(set:uBl):zjM N (c.toNat:Int) set=some (set.contains c):=by unfold zjM ye;simp only[zc,WN];congr 1;rw[nZ];simp only[decide_eq_true_eq,jC]
theorem zbE(N:Nat)(s set:uBl)(f:Nat)(hs:s.length<=4611686018427387904):∀(n k:Nat),f+k<=s.length->s.length-(f+k)<n->
  J4 N n s (f:Int) set (k:Int)=some ((k+cnt set (s.drop (f+k)):Nat):Int)
 |0,k,_,h=>by omega
 |n+1,k,hk,h=>by
  show Xw N (J4 N n) s f set k=_;unfold Xw;have e:((f:Int)+(k:Int))=((f+k:Nat):Int):=by omega
  rw[e,zn (by omega) (by omega),za,zb];by_cases hlt:f+k<s.length
  ·rw[if_pos (by omega),za,jx hlt,za,zK,zaY,zc,jb hlt,j3];cases hc:set.contains (s.getD (f+k) 0)
   ·simp
   ·simp only[cond_true,if_true];have e2:((k:Int)+1)=((k+1:Nat):Int):=by omega
    rw[e2,zn (by omega) (by omega),za,zbE N s set f hs n (k+1) (by omega) (by omega)];congr 2;rw[show f+(k+1)=f+k+1 by omega];omega
  ·rw[if_neg (by omega),nW (by omega)];rfl
theorem Yv{N:Nat}{s set:uBl}{f:Nat}(hs:s.length<=4611686018427387904)(hN:s.length<N)(hf:f<=s.length):zX N s (f:Int) set=some ((cnt set (s.drop f):Nat):Int):=by unfold zX;have:=zbE N s set f hs N 0 (by omega) (by omega);simpa using this
end Go.Proofs.C06
end
section
set_option maxRecDepth 100000
namespace Go.Proofs.C06
open Go Go.RowKit Go.Vc Go.Am
def syms:uBl:=[65,88,57,83,86,80,90,42,43,45,46,44,36,66,48,47,67,82,68]
def digs:uBl:=[48,49,50,51,52,53,54,55,56,57]
def valP(a:Nat)(l:uBl):Nat:=l.foldl (fun a c=>a*10+(c.toNat-48)) a
theorem zgu(c:UInt8):digs.contains c=true↔48<=c.toNat/\c.toNat<=57:=by unfold digs;simp only[nX,List.contains_nil,uAR,nI,beq_iff_eq];rw[<-UInt8.toNat_inj,<-UInt8.toNat_inj,<-UInt8.toNat_inj,<-UInt8.toNat_inj,<-UInt8.toNat_inj,<-UInt8.toNat_inj,<-UInt8.toNat_inj,<-UInt8.toNat_inj,<-UInt8.toNat_inj,<-UInt8.toNat_inj];simp only[UInt8.reduceToNat];omega
theorem zdx:∀(l:uBl)(a:Nat),(∀c∈l,digs.contains c=true)->Lib.decFrom a l=some (valP a l)
 |[],a,_=>rfl
 |c::l,a,h=>by
  have h1:=(zgu c).1 (h c (by simp));have h2:=zdx l (a*10+(c.toNat-48)) (fun x hx=>h x (by simp[hx]));unfold Lib.decFrom;have:Lib.digitVal c=some (c.toNat-48):=by unfold Lib.digitVal;rw[if_pos h1]
  rw[this];exact h2
theorem zvh{l:uBl}(h:∀c∈l,digs.contains c=true)(hne:l≠[]):Lib.atoi l=some ((valP 0 l:Nat):Int):=by
 cases l with
 |nil=>exact absurd rfl hne
 |cons b r=>
  have h1:=(zgu b).1 (h b (by simp));have hb1:(b==45)=false:=by rw[beq_eq_false_iff_ne];intro e;subst e;simp at h1
  have hb2:(b==43)=false:=by rw[beq_eq_false_iff_ne];intro e;subst e;simp at h1
  unfold Lib.atoi;have:=zdx (b::r) 0 h;simp only[hb1,hb2,nB,if_false,Lib.decNat,List.isEmpty_cons,this];rfl
theorem ziU:∀(l:uBl)(a:Nat),(∀c∈l,digs.contains c=true)->valP a l<(a+1)*10^l.length
 |[],a,_=>by simp[valP]
 |c::l,a,h=>by have h1:=(zgu c).1 (h c (by simp));have h2:=ziU l (a*10+(c.toNat-48)) (fun x hx=>h x (by simp[hx]));show valP (a*10+(c.toNat-48)) l<_;refine uAx h2 ?_;rw[mK,Nat.pow_succ',<-uAg];exact nF _ (by omega)
theorem QV(set:uBl)(s:uBl):∀k,k<=cnt set s->∀c∈s.take k,set.contains c=true:=by
 induction s with
 |nil=>intro k _ c hc;simp at hc
 |cons x s ih=>
  intro k hk c hc;rw[j3]at hk;cases k with
  |zero=>simp at hc
  |succ k=>
   split at hk
   ·rename_i hx;simp only[uAp,mX]at hc;rcases hc with rfl|hc
    ·exact hx
    ·exact ih k (by omega) c hc
   ·omega
def rep(t:uBl):Option (Nat×Nat):=if t.getD 0 0=40 then if 1<=cnt digs (t.drop 1)/\cnt digs (t.drop 1)<=5/\t.getD (cnt digs (t.drop 1)+1) 0=41/\valP 0 ((t.drop 1).take (cnt digs (t.drop 1)))≠0 then some (valP 0 ((t.drop 1).take (cnt digs (t.drop 1))),cnt digs (t.drop 1)+2)else none else some (1,0)
theorem ztj{t:uBl}{m z:Nat}(h:rep t=some (m,z)):m<=99999/\1<=m/\z<=t.length/\z<=7:=by
 unfold rep at h;split at h
 ·split at h
  ·rename_i h1 h2;cases h;obtain⟨a,b,c,d⟩:=h2;have hv:=ziU ((t.drop 1).take (cnt digs (t.drop 1))) 0 (QV digs _ _ (mH _));have hl:((t.drop 1).take (cnt digs (t.drop 1))).length<=5:=by rw[mJ];omega
   have hp:10^((t.drop 1).take (cnt digs (t.drop 1))).length<=10^5:=nT (by omega) hl;have hlt:cnt digs (t.drop 1)+1<t.length:=by
    rcases uAU (cnt digs (t.drop 1)+1) t.length with h|h
    ·exact h
    ·rw[mI,uAl h]at c;cases c
   refine⟨?_,by omega,by omega,by omega⟩;have:(10:Nat)^5=100000:=rfl;omega
  ·cases h
 ·cases h;omega
theorem zmC(t:uBl):Lib.hasPrefix t [40]=decide (t.getD 0 0=40):=by
 unfold Lib.hasPrefix;cases t with
 |nil=>rfl
 |cons c t=>simp only[List.isPrefixOf,uAS,List.getD_cons_zero];rw[nZ];simp only[beq_iff_eq,decide_eq_true_eq];exact eq_comm
theorem zp8(l:uBl)(a b:Nat):Vc.sub l (a:Int) (b:Int)=(l.take b).drop a:=by simp[Vc.sub]
theorem zob{N:Nat}{t:uBl}(ht:t.length<=1000)(hN:1000<N):∃a b,zaP N t=some (a,b,(rep t).isSome)/\∀m z,rep t=some (m,z)->a=(m:Int)/\b=(z:Int):=by
 unfold zaP zae;rw[zc,zmC,zg];by_cases h0:t.getD 0 0=40
 ·rw[if_pos h0];have hlen:1<=t.length:=by
   cases t with
   |nil=>cases h0
   |cons _ _=>simp
  have hc:=Yv (N:=N) (s:=t) (set:=digs) (f:=1) (by omega) (by omega) hlen;have hc':zX N t 1 [48,49,50,51,52,53,54,55,56,57]=some ((cnt digs (t.drop 1):Nat):Int):=hc;rw[show of_ N [48,49,50,51,52,53,54,55,56,57]=some [48,49,50,51,52,53,54,55,56,57]from rfl,zc,hc',zc];have hle:=YR digs (t.drop 1);rw[mL]at hle;unfold rep;rw[if_pos h0];generalize hd:cnt digs (t.drop 1)=d at hle;rw[zb];by_cases h1:d<1
  ·rw[if_pos (by omega),if_neg (by omega)];exact⟨_,_,rfl,fun _ _ h=>by cases h⟩
  ·rw[if_neg (by omega),zb];by_cases h2:5<d
   ·rw[if_pos (by omega),if_neg (by omega)];exact⟨_,_,rfl,fun _ _ h=>by cases h⟩
   ·have e1:((d:Int)+1)=((d+1:Nat):Int):=by omega
    have e2:((d:Int)+2)=((d+2:Nat):Int):=by omega
    rw[if_neg (by omega),e1,zn (by omega) (by omega),za,zb];by_cases h3:t.length<=d+1
    ·have:t.getD (d+1) 0=0:=by rw[mI,uAl h3];rfl
     rw[if_pos (by omega),if_neg (by rw[this];intro⟨_,_,h,_⟩;cases h)];exact⟨_,_,rfl,fun _ _ h=>by cases h⟩
    ·rw[if_neg (by omega),za,jx (by omega),za,zg,zK];by_cases h4:t.getD (d+1) 0=41
     ·have hs:Vc.sub t 1 ((d+1:Nat):Int)=(t.drop 1).take d:=by rw[show((1:Int))=((1:Nat):Int)from rfl,zp8,List.take_drop];congr 1;rw[uAA]
      have hmem:∀c∈(t.drop 1).take d,digs.contains c=true:=QV digs _ _ (by omega);have hne:(t.drop 1).take d≠[]:=by intro e;have:=congrArg List.length e;rw[mJ,mL]at this;simp at this;omega
      have hat:zqA ((t.drop 1).take d)=some ((valP 0 ((t.drop 1).take d):Nat):Int):=by unfold zqA;rw[decide_eq_true (by rw[mJ];omega),za];exact zvh hmem hne
      have hv:=ziU _ 0 hmem;rw[if_pos (by rw[h4];rfl),zB.2 ⟨by omega,by omega,by omega⟩,za,hs,hat,zc,e2,zn (by omega) (by omega),za];by_cases h5:valP 0 ((t.drop 1).take d)=0
      ·rw[if_neg (by rw[h5];intro⟨_,_,_,h⟩;exact h rfl),h5];exact⟨_,_,rfl,fun _ _ h=>by cases h⟩
      ·rw[if_pos ⟨by omega,by omega,h4,h5⟩];exact⟨_,_,by rw[decide_eq_true (by omega)];rfl,fun _ _ h=>by cases h;exact⟨rfl,rfl⟩⟩
     ·rw[if_neg (fun e=>h4 (UInt8.toNat_inj.1 (by
       have:(t.getD (d+1) 0).toNat=41:=by omega
       simpa using this))),if_neg (fun⟨_,_,h,_⟩=>h4 h)]
      exact⟨_,_,rfl,fun _ _ h=>by cases h⟩
 ·rw[if_neg h0];refine⟨1,0,?_,fun m z h=>?_⟩
  ·unfold rep;rw[if_neg h0];rfl
  ·unfold rep at h;rw[if_neg h0]at h;cases h;exact⟨rfl,rfl⟩
def items:uBl->Option (List (UInt8×Nat))
 |[]=>some []
 |c::r=>if syms.contains c=true then match rep r with
   |some (m,z)=>(items (r.drop z)).map ((c,m):: ·)
   |none=>none
  else none
termination_by s=>s.length
decreasing_by simp;omega
def tot:List (UInt8×Nat)->Nat
 |[]=>0
 |(_,m)::l=>m+tot l
def flat:List (UInt8×Nat)->uBl
 |[]=>[]
 |(c,m)::l=>List.replicate m c++flat l
def exR(all:Nat)(out:uBl):Option (List (UInt8×Nat))->uBl×Int
 |none=>([],4)
 |some l=>if all+tot l=0 then([],4)else if 256<all+tot l then([],3)else(out++flat l,0)
theorem zbu{all m:Nat}{c:UInt8}{out out':uBl}(x:Option (List (UInt8×Nat)))(hm:1<=m)(h:all+m<=256->out'=out++List.replicate m c):
  exR (all+m) out' x=exR all out (x.map ((c,m):: ·)):=by
 cases x with
 |none=>rfl
 |some l=>
  have e:tot ((c,m)::l)=m+tot l:=rfl;have ef:flat ((c,m)::l)=List.replicate m c++flat l:=rfl;show(if all+m+tot l=0 then([],4)else if 256<all+m+tot l then([],3)else(out'++flat l,0))=
   (if all+tot ((c,m)::l)=0 then(([]:uBl),(4:Int))else if 256<all+tot ((c,m)::l)then([],3)else(out++flat ((c,m)::l),0))
  by_cases hb:256<all+m+tot l
  ·rw[if_neg (show¬(all+m+tot l=0)by omega),if_neg (show¬(all+tot ((c,m)::l)=0)by omega),if_pos hb,if_pos (show 256<all+tot ((c,m)::l)by omega)]
  ·rw[if_neg (show¬(all+m+tot l=0)by omega),if_neg (show¬(all+tot ((c,m)::l)=0)by omega),if_neg hb,if_neg (show¬(256<all+tot ((c,m)::l))by omega),h (by omega),mP,ef]
theorem zhb(s:uBl)(i:Nat):toByte (byteAt s (i:Int))=s.getD i 0:=by unfold toByte;rw[zK];simp
theorem zdb(c:UInt8):∀m,Lib.repeatL [c] m=List.replicate m c
 |0=>rfl
 |m+1=>by rw[Lib.repeatL,zdb c m,nM];rfl
theorem Zv{n:Nat}(h:n<=1000000):ja 1 n=true:=by unfold ja;rw[mE];exact⟨nC (by omega),nC (by omega)⟩
theorem Kp(c:UInt8){m:Nat}(hm:m<=100000):jU [c] (m:Int)=some (List.replicate m c):=by unfold jU;rw[decide_eq_true (by omega),decide_eq_true (by omega),decide_eq_true (by simp;omega)];simp only[uAH,za,nA,zdb]
theorem ziN{N:Nat}{s:uBl}(h:s.length<=1000000):∃q,QL N s=some (q,s):=by unfold QL;rw[Zv (by simpa using h),za];exact⟨_,rfl⟩
theorem zlg{N:Nat}{s l:uBl}(h:l.length+s.length<=1000000):∃q,Ve N s l=some (q,l++s):=by unfold Ve;rw[Zv (by simpa using h),za];exact⟨_,rfl⟩
theorem zkQ{s:uBl}{i:Nat}{c:UInt8}{r:uBl}(h:s.drop i=c::r):i<s.length/\s.getD i 0=c/\s.drop (i+1)=r:=by
 have hlt:i<s.length:=by
  rcases uAU i s.length with h'|h'
  ·exact h'
  ·rw[nW h']at h;cases h
 rw[jb hlt]at h;cases h;exact⟨hlt,rfl,rfl⟩
end Go.Proofs.C06
end
section
set_option maxRecDepth 100000
namespace Go.Proofs.C06
open Go Go.RowKit Go.Vc Go.Am
theorem zah(c:UInt8)(r:uBl):items (c::r)=if syms.contains c=true then match rep r with
   |some (m,z)=>(items (r.drop z)).map ((c,m):: ·)
   |none=>none
  else none:=by
 by_cases h:syms.contains c=true
 ·rw[items];all_goals simp only[if_pos h]
  all_goals (rcases rep r with _|⟨m,z⟩<;>rfl)
 ·rw[items];all_goals simp only[if_neg h]
theorem zxt(all:Nat)(out:uBl):exR all out (items [])=if all=0 then([],4)else if 256<all then([],3)else(out,0):=by rw[items];simp[exR,tot,flat]
theorem ZR{N:Nat}(hN:1000<N)(s:uBl)(hs:s.length<=400):∀(n i all:Nat)(out:uBl),i<=s.length->s.length-i<n->all<=99999*i->out.length<=256->(all<=256->out.length=all)->
  ym N n (.inr (s,(all:Int),(i:Int),out))=some (exR all out (items (s.drop i)))/\(out=[]->ym N n (.inl (s,(all:Int),(i:Int)))=some (exR all out (items (s.drop i))))
 |0,i,all,out,_,h,_,_,_=>by omega
 |n+1,i,all,out,hi,h,hall,ho,hoa=>by
  have step:∀(go:uBl×Int×Int×uBl->Option (uBl×Int))(go':uBl×Int×Int->Option (uBl×Int)),True:=fun _ _=>trivial
  rcases hd:s.drop i with _|⟨c,r⟩
  ·have hge:s.length<=i:=by have:=congrArg List.length hd;simp at this;omega
   rw[zxt];refine⟨?_,fun ho0=>?_⟩
   ·show qS N (ym N n) s all i out=_;unfold qS;rw[zb,if_neg (by omega),zb];by_cases h0:all=0
    ·rw[if_pos (by omega),if_pos h0]
    ·rw[if_neg (by omega),if_neg h0,zb];by_cases h1:256<all
     ·rw[if_pos (by omega),if_pos h1]
     ·rw[if_neg (by omega),if_neg h1];unfold Kk;rw[decide_eq_true (by omega),za,zc]
   ·subst ho0;show qT N (ym N n) s all i=_;unfold qT;rw[zb,if_neg (by omega),zb];by_cases h0:all=0
    ·rw[if_pos (by omega),if_pos h0]
    ·rw[if_neg (by omega),if_neg h0,zb];by_cases h1:256<all
     ·rw[if_pos (by omega),if_pos h1]
     ·rw[if_neg (by omega),if_neg h1]
  ·obtain⟨hlt,hc,hr⟩:=zkQ hd;have hrl:r.length=s.length-(i+1):=by rw[<-hr,mL]
   obtain⟨a,b,hrep,hab⟩:=zob (N:=N) (t:=r) (by omega) hN;have e1:((i:Int)+1)=((i+1:Nat):Int):=by omega
   have hdrop:zY s ((i+1:Nat):Int)=r:=by unfold zY;simpa using hr
   have hin:∀set:uBl,(bnd (of_ N set) fun rr=>zjM N (byteAt s (i:Int)) rr)=some (set.contains c):=by intro set;unfold of_;rw[zc,zK,hc,zaY]
   have hof:∀set:uBl,zjM N (byteAt s (i:Int)) set=some (set.contains c):=by intro set;rw[zK,hc,zaY]
   have hc255:inKb .u8 (byteAt s (i:Int))=true:=by rw[zK];have:=(s.getD i 0).toNat_lt;exact yh.2 ⟨by show(0:Int)<=_;omega,by show _<=(255:Int);omega⟩
   have htb:[byteAt s (i:Int)].map toByte=[c]:=by rw[uAw,List.map_nil,zhb,hc]
   rw[zah];refine⟨?_,fun ho0=>?_⟩
   ·show qS N (ym N n) s all i out=_;unfold qS;rw[zb,if_pos (by omega),jx hlt,za,e1,zn (by omega) (by omega),za,zB.2 ⟨by omega,by omega,by omega⟩,za,hdrop,hrep,zc];cases hro:rep r with
    |none=>simp only[Option.isSome_none,Bool.not_false,cond_true];split<;>rfl
    |some x=>
     obtain⟨m,z⟩:=x;obtain⟨rfl,rfl⟩:=hab m z hro;obtain⟨m1,m2,m3,m4⟩:=ztj hro;simp only[Option.isSome_some,uAL,cond_false];have hsy:of_ N [65,88,57,83,86,80,90,42,43,45,46,44,36,66,48,47,67,82,68]=some syms:=rfl;rw[hsy,zc,hof,zc];cases hsc:syms.contains c with
     |false=>rfl
     |true=>
      simp only[uAL,cond_false,if_true];have e2:((all:Int)+(m:Int))=((all+m:Nat):Int):=by omega
      have e3:((1:Int)+(z:Int))=((1+z:Nat):Int):=by omega
      have e4:((i:Int)+((1+z:Nat):Int))=((i+1+z:Nat):Int):=by omega
      have hdz:r.drop z=s.drop (i+1+z):=by rw[<-hr,mZ]
      rw[e2,zn (by omega) (by omega),za,zb,hdz];by_cases hle:all+m<=256
      ·rw[if_pos (by omega),hc255,uAS,za,htb,Kp c (by omega),zc];have hol:=hoa (by omega);obtain⟨q,hq⟩:=zlg (N:=N) (s:=List.replicate m c) (l:=out) (by rw[mM];omega);rw[hq,zc,e3,zn (by omega) (by omega),za,e4,zn (by omega) (by omega),za];have:=(ZR hN s hs n (i+1+z) (all+m) (out++List.replicate m c) (by omega) (by omega) (by omega) (by simp;omega) (fun _=>by simp;omega)).1;rw[this,zbu _ m2 (fun _=>rfl)]
      ·rw[if_neg (by omega),e3,zn (by omega) (by omega),za,e4,zn (by omega) (by omega),za];have:=(ZR hN s hs n (i+1+z) (all+m) out (by omega) (by omega) (by omega) ho (fun h=>by omega)).1;rw[this,zbu (c:=c) _ m2 (fun h=>by omega)]
   ·subst ho0;show qT N (ym N n) s all i=_;unfold qT;rw[zb,if_pos (by omega),jx hlt,za,e1,zn (by omega) (by omega),za,zB.2 ⟨by omega,by omega,by omega⟩,za,hdrop,hrep,zc];cases hro:rep r with
    |none=>simp only[Option.isSome_none,Bool.not_false,cond_true];split<;>rfl
    |some x=>
     obtain⟨m,z⟩:=x;obtain⟨rfl,rfl⟩:=hab m z hro;obtain⟨m1,m2,m3,m4⟩:=ztj hro;simp only[Option.isSome_some,uAL,cond_false];have hsy:of_ N [65,88,57,83,86,80,90,42,43,45,46,44,36,66,48,47,67,82,68]=some syms:=rfl;rw[hsy,zc,hof,zc];cases hsc:syms.contains c with
     |false=>rfl
     |true=>
      simp only[uAL,cond_false,if_true];have e2:((all:Int)+(m:Int))=((all+m:Nat):Int):=by omega
      have e3:((1:Int)+(z:Int))=((1+z:Nat):Int):=by omega
      have e4:((i:Int)+((1+z:Nat):Int))=((i+1+z:Nat):Int):=by omega
      have hdz:r.drop z=s.drop (i+1+z):=by rw[<-hr,mZ]
      rw[e2,zn (by omega) (by omega),za,zb,hdz];by_cases hle:all+m<=256
      ·rw[if_pos (by omega),hc255,uAS,za,htb,Kp c (by omega),zc];have hol:=hoa (by omega);obtain⟨q,hq⟩:=ziN (N:=N) (s:=List.replicate m c) (by rw[mM];omega);rw[hq,zc,e3,zn (by omega) (by omega),za,e4,zn (by omega) (by omega),za];have:=(ZR hN s hs n (i+1+z) (all+m) (List.replicate m c) (by omega) (by omega) (by omega) (by simp;omega) (fun _=>by simp at hol⊢;omega)).1;rw[this,zbu (c:=c) (out:=[]) _ m2 (fun _=>by simp)]
      ·rw[if_neg (by omega),e3,zn (by omega) (by omega),za,e4,zn (by omega) (by omega),za];have:=(ZR hN s hs n (i+1+z) (all+m) [] (by omega) (by omega) (by omega) ho (fun h=>by omega)).2 rfl;rw[this,zbu (c:=c) _ m2 (fun h=>by omega)]
theorem zpU{N:Nat}(hN:1000<N){s:uBl}(hs:s.length<=400):zk8 N s=some (exR 0 [] (items s)):=by unfold zk8;have:=(ZR hN s hs N 0 0 [] (by omega) (by omega) (by omega) (by simp) (fun _=>rfl)).2 rfl;simpa using this
end Go.Proofs.C06
end
section
set_option maxRecDepth 100000
namespace Go.Proofs.C06
open Go Go.RowKit Go.Vc Go.Am
theorem ze6{n:Int}(h1:0<=n)(h2:n<=255):IntKind.wrap .u8 n=n:=zaB ⟨h1,h2⟩
end Go.Proofs.C06
end
section
set_option maxRecDepth 100000
namespace Go.Proofs.C06
open Go Go.RowKit Go.Vc Go.Am
theorem zcN(s:uBl)(n:Nat):zY s (n:Int)=s.drop n:=rfl
def zaZ(r:uBl):Option (Nat×Int):=
 if 1<cnt [86] r then none
 else if cnt [57] (r.drop (cnt [86] r+cnt [80] (r.drop (cnt [86] r))))=0 then none
 else if 0<cnt [80] (r.drop (cnt [86] r))then
  if cnt [86] r+cnt [80] (r.drop (cnt [86] r))+cnt [57] (r.drop (cnt [86] r+cnt [80] (r.drop (cnt [86] r))))=r.length then
   some (cnt [57] (r.drop (cnt [86] r+cnt [80] (r.drop (cnt [86] r)))),((cnt [57] (r.drop (cnt [86] r+cnt [80] (r.drop (cnt [86] r))))+cnt [80] (r.drop (cnt [86] r)):Nat):Int))else none
 else if 0<cnt [86] r then
  if cnt [86] r+cnt [57] (r.drop (cnt [86] r))=r.length then some (cnt [57] (r.drop (cnt [86] r)),((cnt [57] (r.drop (cnt [86] r)):Nat):Int))else none
 else
  let c:=cnt [57] r;let k:=cnt [80] (r.drop c)
  if 0<k then
   if c+k=r.length\/r.drop (c+k)=[86]then some (c,-(k:Int))else none
  else if c=r.length then some (c,0)
  else if r.getD c 0=86 then
   if c+1+cnt [57] (r.drop (c+1))=r.length then some (c+cnt [57] (r.drop (c+1)),((cnt [57] (r.drop (c+1)):Nat):Int))else none
  else none
def jZ(p:uBl)(sg:Bool)(d:Nat)(sc:Int):Shape:=Shape.mk 4 0 p d sc sg false false false false d
def unS(p:uBl):uBl:=if p.getD 0 0=83 then p.drop 1 else p
def sgS(p:uBl):Bool:=decide (p.getD 0 0=83)
end Go.Proofs.C06
end
section
set_option maxRecDepth 100000
namespace Go.Proofs.C06
open Go Go.RowKit Go.Vc Go.Am
abbrev rp(n:Nat)(c:UInt8):uBl:=List.replicate n c
theorem Yx(c:UInt8)(t:uBl):∀n,cnt [c] (rp n c++t)=n+cnt [c] t
 |0=>by simp[rp]
 |n+1=>by have:=Yx c t n;rw[rp,nM,nQ,j3,if_pos (by simp),this];omega
theorem yI{c x:UInt8}(h:c≠x)(t:uBl){n:Nat}(hn:1<=n):cnt [x] (rp n c++t)=0:=by
 obtain⟨m,rfl⟩:∃m,n=m+1:=⟨n-1,by omega⟩
 rw[rp,nM,nQ,j3,if_neg (by simpa using h)]
theorem KT{c x:UInt8}(h:c≠x)(t:uBl):cnt [x] (c::t)=0:=by rw[j3,if_neg (by simpa using h)]
theorem yJ(c:UInt8)(n:Nat):cnt [c] (rp n c)=n:=by have:=Yx c [] n;simpa[zqW]using this
theorem KS{c x:UInt8}(h:c≠x)(n:Nat):cnt [x] (rp n c)=0:=by
 cases n with
 |zero=>rfl
 |succ n=>have:=yI h [] (n:=n+1) (by omega);simpa using this
theorem QA(c:UInt8)(t:uBl)(n:Nat):(rp n c++t).drop n=t:=by rw[nS (by simp),nW (by simp)];rfl
theorem zcL(c:UInt8)(t:uBl)(n m:Nat):(rp n c++t).drop (n+m)=t.drop m:=by rw[<-mZ,QA]
theorem zsg(c:UInt8)(n:Nat):(rp n c).drop n=[]:=nW (by simp)
theorem Jm(c:UInt8):∀s:uBl,s=rp (cnt [c] s) c++s.drop (cnt [c] s)
 |[]=>rfl
 |x::s=>by
  by_cases h:x=c
  ·subst h;rw[j3,if_pos (by simp),uA9,rp,nM,nQ,<-Jm x s]
  ·rw[KT h];rfl
theorem zeX{c:UInt8}{s:uBl}:cnt [c] s=s.length↔s=rp s.length c:=by
 constructor
 ·intro h;have:=Jm c s;rw[h,List.drop_length,nE]at this;exact this
 ·intro h;rw[h,yJ];simp
theorem KU{c:UInt8}{s:uBl}(h:cnt [c] s=s.length):∃n,s=rp n c:=⟨_,zeX.1 h⟩
def znD(r:uBl)(d:Nat)(sc:Int):Prop:=(∃c f,1<=c/\r=rp c 57++(86::rp f 57)/\d=c+f/\sc=(f:Int))\/(∃a b c,a<=1/\1<=c/\r=rp a 86++(rp b 80++rp c 57)/\d=c/\sc=(if a=0/\b=0 then(0:Int)else((c+b:Nat):Int)))\/(∃c k e,1<=c/\1<=k/\e<=1/\r=rp c 57++(rp k 80++rp e 86)/\d=c/\sc= -(k:Int))
theorem zr0{r:uBl}{d:Nat}{sc:Int}(h:znD r d sc):zaZ r=some (d,sc):=by
 rcases h with⟨c,f,hc,rfl,rfl,rfl⟩|⟨a,b,c,ha,hc,rfl,hd,rfl⟩|⟨c,k,e,hc,hk,he,rfl,hd,rfl⟩
 ·have e1:cnt [86] (rp c 57++(86::rp f 57))=0:=yI (by decide) _ hc;have e2:cnt [80] (rp c 57++(86::rp f 57))=0:=yI (by decide) _ hc;have e3:cnt [57] (rp c 57++(86::rp f 57))=c:=by rw[Yx,KT (by decide)];rfl
  have e4:cnt [80] ((86:UInt8)::rp f 57)=0:=KT (by decide) _;unfold zaZ;simp only[e1,uAa,e2,uAf,e3,QA,e4];have g1:(rp c 57++((86:UInt8)::rp f 57)).length=c+(f+1):=by simp
  have g2:(rp c 57++((86:UInt8)::rp f 57)).getD c 0=86:=by rw[mI,nD (by simp)];simp
  have g3:(rp c 57++((86:UInt8)::rp f 57)).drop (c+1)=rp f 57:=by rw[zcL];rfl
  rw[if_neg (by omega),if_neg (by omega),if_neg (by omega),if_neg (by omega),if_neg (by omega),if_neg (by rw[g1];omega),if_pos g2,g3,yJ,if_pos (by rw[g1];omega)]
 ·obtain rfl:c=d:=hd.symm;have e1:cnt [86] (rp a 86++(rp b 80++rp c 57))=a:=by
   rw[Yx];by_cases hb:b=0
   ·subst hb;have:=KS (c:=57) (x:=86) (by decide) c;simp only[rp,List.replicate_zero,uAs]at*;omega
   ·rw[yI (by decide) _ (by omega)];rfl
  have e2:cnt [80] (rp b 80++rp c 57)=b:=by rw[Yx,KS (by decide)];rfl
  have g1:(rp a 86++(rp b 80++rp c 57)).length=a+(b+c):=by simp
  have g2:(rp a 86++(rp b 80++rp c 57)).drop (a+b)=rp c 57:=by rw[zcL,QA]
  unfold zaZ;simp only[e1,QA,e2,g2,yJ,g1];rw[if_neg (by omega),if_neg (by omega)];by_cases hb:0<b
  ·rw[if_pos hb,if_pos (by omega),if_neg (by omega)]
  ·have hb0:b=0:=by omega
   subst hb0;rw[if_neg (by omega)];have e3:(rp 0 80++rp c 57:uBl)=rp c 57:=rfl;by_cases ha1:0<a
   ·rw[if_pos ha1,e3,yJ,if_pos (by omega),if_neg (by omega)];rfl
   ·have ha0:a=0:=by omega
    subst ha0;rw[if_neg (by omega)];have e4:(rp 0 86++(rp 0 80++rp c 57):uBl)=rp c 57:=rfl;simp only[e4,yJ,zsg,zqW];rw[if_neg (by omega),if_pos (by omega),if_pos (by simp)]
 ·obtain rfl:c=d:=hd.symm;have e1:cnt [86] (rp c 57++(rp k 80++rp e 86))=0:=yI (by decide) _ hc;have e2:cnt [80] (rp c 57++(rp k 80++rp e 86))=0:=yI (by decide) _ hc;have e3:cnt [57] (rp c 57++(rp k 80++rp e 86))=c:=by rw[Yx,yI (by decide) _ hk];rfl
  have e4:cnt [80] (rp k 80++rp e 86)=k:=by rw[Yx,KS (by decide)];rfl
  have g1:(rp c 57++(rp k 80++rp e 86)).length=c+(k+e):=by simp
  have g3:(rp c 57++(rp k 80++rp e 86)).drop (c+k)=rp e 86:=by rw[zcL,QA]
  unfold zaZ;simp only[e1,uAa,e2,uAf,e3,QA,e4,g1,g3];rw[if_neg (by omega),if_neg (by omega),if_neg (by omega),if_neg (by omega),if_pos (by omega),if_pos];by_cases h:e=0
  ·left;omega
  ·right;rw[show e=1 by omega];rfl
theorem numS_form{r:uBl}{d:Nat}{sc:Int}(h:zaZ r=some (d,sc)):znD r d sc:=by
 unfold zaZ at h;have s1:=Jm 86 r;generalize cnt [86] r=a at*
 generalize hr1:r.drop a=r1 at*
 have s2:=Jm 80 r1;have d2:r.drop (a+cnt [80] r1)=r1.drop (cnt [80] r1):=by rw[<-hr1,mZ]
 rw[d2]at h;have hl:=congrArg List.length s1;rw[mO,mM]at hl;have hb:=YR [80] r1;split at h
 ·cases h
 ·rename_i h1;split at h
  ·cases h
  ·rename_i h2;split at h
   ·rename_i h3;split at h
    ·rename_i h4;cases h;refine .inr (.inl ⟨a,cnt [80] r1,cnt [57] (r1.drop (cnt [80] r1)),by omega,by omega,?_,rfl,by rw[if_neg (by omega)]⟩);have h5:cnt [57] (r1.drop (cnt [80] r1))=(r1.drop (cnt [80] r1)).length:=by rw[mL];omega
     rw[zeX.1 h5]at s2;rw[s2]at s1;rw[h5];exact s1
    ·cases h
   ·rename_i h3;have hb0:cnt [80] r1=0:=by omega
    rw[hb0,uAa]at h2;split at h
    ·split at h
     ·rename_i h4 h5;cases h;have h6:cnt [57] r1=r1.length:=by omega
      refine .inr (.inl ⟨a,0,cnt [57] r1,by omega,by omega,?_,rfl,by rw[if_neg (by omega)];rfl⟩);rw[zeX.1 h6]at s1;rw[h6];exact s1
     ·cases h
    ·rename_i h4;have ha0:a=0:=by omega
     subst ha0;rw[uAa]at hr1;subst hr1;have s3:=Jm 57 r;have hc:=YR [57] r;simp only[]at h;have s4:=Jm 80 (r.drop (cnt [57] r));have hk:=YR [80] (r.drop (cnt [57] r));rw[mL]at hk;rw[mZ]at s4;generalize cnt [57] r=c at*
     generalize cnt [80] (r.drop c)=k at*
     split at h
     ·rename_i h5;split at h
      ·rename_i h6;cases h;rcases h6 with h6|h6
       ·refine .inr (.inr ⟨d,k,0,by omega,by omega,by omega,?_,rfl,rfl⟩);rw[nW (show r.length<=d+k by omega),nE]at s4;rw[s4]at s3;simpa using s3
       ·refine .inr (.inr ⟨d,k,1,by omega,by omega,by omega,?_,rfl,rfl⟩);rw[h6]at s4;rw[s4]at s3;exact s3
      ·cases h
     ·split at h
      ·rename_i h5 h6;cases h;refine .inr (.inl ⟨0,0,d,by omega,by omega,?_,rfl,by simp⟩);rw[nW (show r.length<=d by omega),nE]at s3;exact s3
      ·split at h
       ·split at h
        ·rename_i h5 h6 h7 h8;cases h;have hlt:c<r.length:=by omega
         refine .inl ⟨c,cnt [57] (r.drop (c+1)),by omega,?_,rfl,rfl⟩;have h9:cnt [57] (r.drop (c+1))=(r.drop (c+1)).length:=by rw[mL];omega
         rw[jb hlt,h7,zeX.1 h9]at s3;rw[h9];exact s3
        ·cases h
       ·cases h
end Go.Proofs.C06
end
section
set_option maxRecDepth 100000
namespace Go.Proofs.C06
open Go Go.RowKit Go.Vc Go.Am
def zcq(r:uBl):Option (Nat×Int):=if r.count 57=0\/1<r.count 86 then none else if r.count 80=0 then if cnt [57] (Lib.cut r [86]).1=(Lib.cut r [86]).1.length/\cnt [57] (Lib.cut r [86]).2.1=(Lib.cut r [86]).2.1.length then some (r.count 57,(((Lib.cut r [86]).2.1.length:Nat):Int))else none else if cnt [57] (Lib.trimLeftS r [86,80])=(Lib.trimLeftS r [86,80]).length/\((Lib.cut r [86]).2.2=false\/r.getD 0 0=86)then some (r.count 57,((r.count 57+r.count 80:Nat):Int))else if cnt [57] (Lib.trimRightS (Lib.trimSuffix r [86]) [80])=(Lib.trimRightS (Lib.trimSuffix r [86]) [80]).length then some (r.count 57,-((r.count 80:Nat):Int))else none
theorem Z4{N:Nat}{s:uBl}(hs:s.length<=400)(hN:1000<N):JF N s=some (decide (cnt [57] s=s.length)):=by unfold JF;have:=Yv (N:=N) (s:=s) (set:=[57]) (f:=0) (by omega) (by omega) (by omega);rw[show of_ N [57]=some [57]from rfl,zc];rw[show zX N s 0 [57]=some ((cnt [57] s:Nat):Int)from this,zc];congr 1;rw[nZ];simp only[decide_eq_true_eq];omega
theorem zo0(t:uBl)(c:UInt8)(hc:c≠0):Lib.hasPrefix t [c]=decide (t.getD 0 0=c):=by
 unfold Lib.hasPrefix;cases t with
 |nil=>simp[hc.symm]
 |cons x t=>simp only[List.isPrefixOf,uAS,List.getD_cons_zero];rw[nZ];simp only[beq_iff_eq,decide_eq_true_eq];exact eq_comm
theorem zy2(r:uBl)(c:UInt8)(j:Nat):Lib.occAt r [c] j=true↔r[j]? =some c:=by
 unfold Lib.occAt;rcases h:r.drop j with _|⟨x,t⟩
 ·have:r[j]? =none:=by have:=congrArg List.length h;simp at this;exact uAl (by omega)
  simp[this,List.isPrefixOf]
 ·have:r[j]? =some x:=by
   have h2:(r.drop j)[0]? =some x:=by rw[h];rfl
   rw[nJ]at h2;simpa using h2
  rw[this];simp[List.isPrefixOf];exact eq_comm
theorem cut1(r:uBl)(c:UInt8):(Lib.cut r [c]=(r,[],false)/\r.count c=0)\/
  ∃i,i<r.length/\r.getD i 0=c/\Lib.cut r [c]=(r.take i,r.drop (i+1),true)/\(r.take i).count c=0:=by
 unfold Lib.cut;rcases Lib.index_spec r [c]with⟨h1,h2⟩|⟨i,h1,h2,h3,h4⟩
 ·left;rw[h1,if_neg (by omega)];refine⟨rfl,uAO.2 fun hm=>?_⟩;obtain⟨j,hj,he⟩:=List.mem_iff_getElem.1 hm;have:=h2 j (by omega);rw[<-Bool.not_eq_true,zy2]at this;exact this (by rw[mG hj,he])
 ·right;have h5:=(zy2 r c i).1 h3;have hlt:i<r.length:=by
   rcases uAU i r.length with h|h
   ·exact h
   ·rw[uAl h]at h5;cases h5
  refine⟨i,hlt,by rw[mI,h5];rfl,by rw[h1,if_pos (by omega)];rfl,uAO.2 fun hm=>?_⟩;obtain⟨j,hj,he⟩:=List.mem_iff_getElem.1 hm;rw[mJ]at hj;have:=h4 j (by omega);rw[<-Bool.not_eq_true,zy2]at this;rw[List.getElem_take]at he;exact this (by rw[mG (by omega),he])
theorem Wq{N:Nat}(hN:1000<N){r:uBl}(hr:r.length<=400)(b0:Shape)(p:uBl)(sg:Bool)(t:Bool)(ht:t=decide (r.count 57=0\/1<r.count 86)):
  ∃sh,JE N r (Lib.cut r [86]).1 (Lib.cut r [86]).2.1 (Lib.cut r [86]).2.2 ((r.count 80:Nat):Int) (Lib.trimLeftS r [86,80]) t b0 (Shape.mk 4 0 p ((r.count 57:Nat):Int) 0 sg false false false false ((r.count 57:Nat):Int))=some (sh,(zcq r).isSome)/\∀d sc,zcq r=some (d,sc)->sh=jZ p sg d sc:=by
 have c57:=uAu (a:=(57:UInt8)) (l:=r);have c80:=uAu (a:=(80:UInt8)) (l:=r);have lw:(Lib.cut r [86]).1.length<=400/\(Lib.cut r [86]).2.1.length<=400:=by
  rcases cut1 r 86 with⟨h,_⟩|⟨i,_,_,h,_⟩
  ·rw[h];exact⟨hr,by simp⟩
  ·rw[h];simp only[mJ,mL];omega
 have lt:(Lib.trimLeftS r [86,80]).length<=400:=by unfold Lib.trimLeftS;exact nR (List.Sublist.length_le (List.dropWhile_sublist _)) hr
 have lts:(Lib.trimSuffix r [86]).length<=400:=by
  unfold Lib.trimSuffix;split
  ·rw[mJ];omega
  ·exact hr
 have ltr:(Lib.trimRightS (Lib.trimSuffix r [86]) [80]).length<=400:=by unfold Lib.trimRightS;rw[List.length_reverse];refine nR (List.Sublist.length_le (List.dropWhile_sublist _)) ?_;rw[List.length_reverse];exact lts
 subst ht;unfold JE zcq;rw[zb];by_cases h1:r.count 57=0\/1<r.count 86
 ·rw[if_pos h1,if_pos h1];exact⟨_,rfl,fun _ _ h=>by cases h⟩
 ·rw[if_neg h1,if_neg h1,zb];by_cases h2:r.count 80=0
  ·rw[if_pos (by omega),if_pos h2,Z4 lw.1 hN,zc,zb];by_cases h3:cnt [57] (Lib.cut r [86]).1=(Lib.cut r [86]).1.length
   ·rw[if_pos h3,Z4 lw.2 hN,zc];by_cases h4:cnt [57] (Lib.cut r [86]).2.1=(Lib.cut r [86]).2.1.length
    ·rw[if_pos ⟨h3,h4⟩,decide_eq_true h4];exact⟨_,rfl,fun _ _ h=>by cases h;rfl⟩
    ·rw[if_neg (fun h=>h4 h.2),decide_eq_false h4];exact⟨_,rfl,fun _ _ h=>by cases h⟩
   ·rw[if_neg h3,if_neg (fun h=>h3 h.1)];exact⟨_,rfl,fun _ _ h=>by cases h⟩
  ·rw[if_neg (by omega),if_neg h2,Z4 lt hN,zc,zb];have hF:∃sh,yA N r ((r.count 80:Nat):Int) false b0 (Shape.mk 4 0 p ((r.count 57:Nat):Int) 0 sg false false false false ((r.count 57:Nat):Int))=
     some (sh,(if cnt [57] (Lib.trimRightS (Lib.trimSuffix r [86]) [80])=(Lib.trimRightS (Lib.trimSuffix r [86]) [80]).length then some (r.count 57,-((r.count 80:Nat):Int))else none).isSome)/\
     ∀d sc,(if cnt [57] (Lib.trimRightS (Lib.trimSuffix r [86]) [80])=(Lib.trimRightS (Lib.trimSuffix r [86]) [80]).length then some (r.count 57,-((r.count 80:Nat):Int))else none)=some (d,sc)->sh=jZ p sg d sc:=by
    unfold yA Kl zab;rw[cond_false,zn (by omega) (by omega),za,decide_eq_true (by omega),za,zc,decide_eq_true (by omega)];rw[show(true&&(decide (([80]:uBl).length<4294967281)&&K2 [80]))=true from rfl,za,zc,Z4 ltr hN,zc];by_cases h4:cnt [57] (Lib.trimRightS (Lib.trimSuffix r [86]) [80])=(Lib.trimRightS (Lib.trimSuffix r [86]) [80]).length
    ·rw[if_pos h4,decide_eq_true h4];exact⟨_,rfl,fun _ _ h=>by cases h;rfl⟩
    ·rw[if_neg h4,decide_eq_false h4];exact⟨_,rfl,fun _ _ h=>by cases h⟩
   have hT:∃sh,yA N r ((r.count 80:Nat):Int) true b0 (Shape.mk 4 0 p ((r.count 57:Nat):Int) 0 sg false false false false ((r.count 57:Nat):Int))=
     some (sh,true)/\sh=jZ p sg (r.count 57) ((r.count 57+r.count 80:Nat):Int):=by
    unfold yA;rw[cond_true,show(((r.count 57:Nat):Int)+((r.count 80:Nat):Int))=((r.count 57+r.count 80:Nat):Int)by omega,zn (by omega) (by omega),za];exact⟨_,rfl,rfl⟩
   by_cases h3:cnt [57] (Lib.trimLeftS r [86,80])=(Lib.trimLeftS r [86,80]).length
   ·rw[if_pos h3];cases hpt:(Lib.cut r [86]).2.2 with
    |false=>rw[if_pos ⟨h3,.inl rfl⟩];obtain⟨sh,e1,e2⟩:=hT;exact⟨sh,e1,fun _ _ h=>by cases h;exact e2⟩
    |true=>
     have hl:0<r.length:=by
      rcases uAv r.length with h|h
      ·have:r.count 80<=0:=by omega
       omega
      ·exact h
     have hx:=jx hl;have hb:=zK r 0;rw[show((0:Nat):Int)=0 from rfl]at hx hb;simp only[uAL,cond_false,hx,za,hb];by_cases h5:r.getD 0 0=86
     ·rw[if_pos ⟨h3,.inr h5⟩,decide_eq_true (by rw[h5];rfl)];obtain⟨sh,e1,e2⟩:=hT;exact⟨sh,e1,fun _ _ h=>by cases h;exact e2⟩
     ·rw[if_neg (by rintro⟨_,h|h⟩;cases h;exact h5 h),decide_eq_false (show¬(((r.getD 0 0).toNat:Int)=86)from fun e=>h5 (Yz.1 e))];exact hF
   ·rw[if_neg h3,if_neg (fun h=>h3 h.1)];exact hF
theorem zme{N:Nat}(hN:1000<N){p:uBl}(hp:p.length<=400):
  ∃sh,zef N p=some (sh,(zcq (unS p)).isSome)/\∀d sc,zcq (unS p)=some (d,sc)->sh=jZ p (sgS p) d sc:=by
 have hu:Lib.trimPrefix p [83]=unS p/\Lib.hasPrefix p [83]=sgS p:=by unfold Lib.trimPrefix unS sgS;rw[zo0 p 83 (by decide)];simp
 have hr:(unS p).length<=400:=by
  unfold unS;split
  ·rw[mL];omega
  ·exact hp
 unfold zef zaf zy6 Jg;rw[zc,hu.1,hu.2];generalize unS p=r at*
 rw[decide_eq_true (show r.length<4294967281 by omega),za,zc];show∃sh,(bnd (some ((r.count 80:Nat):Int)) fun rr2=>bnd (some ((r.count 57:Nat):Int)) fun rr3=>_)=_/\_;rw[zc,zc];rw[show(decide (([86,80]:uBl).length<4294967281)&&K2 [86,80])=true from rfl,za,zc,zb];by_cases h:r.count 57=0
 ·rw[if_pos (by omega)];exact Wq hN hr _ p (sgS p) true (by rw[decide_eq_true (.inl h)])
 ·rw[if_neg (by omega)];show∃sh,(bnd (some ((r.count 86:Nat):Int)) fun rr11=>_)=_/\_;rw[zc];refine Wq hN hr _ p (sgS p) _ ?_;rw[nZ];simp only[decide_eq_true_eq];omega
end Go.Proofs.C06
end
section
set_option maxRecDepth 100000
namespace Go.Proofs.C06
open Go Go.RowKit Go.Vc Go.Am
theorem zr(c x:UInt8)(n:Nat):(rp n c).count x=if c=x then n else 0:=by rw[rp,List.count_replicate];by_cases h:c=x<;>simp[h]
theorem zm7{r:uBl}{c:UInt8}(h:r.count c=0):Lib.cut r [c]=(r,[],false):=by
 rcases cut1 r c with⟨h1,_⟩|⟨i,hi,hc,_,_⟩
 ·exact h1
 ·exfalso;have:c∈r:=by rw[<-hc,VK hi];exact uBb hi
  exact absurd h (by have:=List.count_pos_iff.2 this;omega)
theorem zu0{s t:uBl}{c:UInt8}(h:s.count c=0):Lib.cut (s++c::t) [c]=(s,t,true):=by
 rcases cut1 (s++c::t) c with⟨_,h1⟩|⟨i,hi,hc,he,h0⟩
 ·rw[mY,List.count_cons_self]at h1;omega
 ·have hm:=uAO.1 h;have hm0:=uAO.1 h0;have h1:i=s.length:=by
   rcases Nat.lt_trichotomy i s.length with hlt|heq|hgt
   ·exfalso;apply hm;rw[VK hi,List.getElem_append_left hlt]at hc;rw[<-hc];exact uBb hlt
   ·exact heq
   ·exfalso;apply hm0;have:(s++c::t).take i=s++(c::t).take (i-s.length):=by rw[List.take_append];rw[nP (by omega)]
    rw[this,mQ];right;obtain⟨m,hm⟩:∃m,i-s.length=m+1:=⟨i-s.length-1,by omega⟩
    rw[hm,uAp];simp
  subst h1;rw[he];simp
theorem Z9{set:uBl}{c:UInt8}(h:set.contains c=true)(t:uBl):∀n,(rp n c++t).dropWhile (set.contains ·)=t.dropWhile (set.contains ·)
 |0=>rfl
 |n+1=>by rw[rp,nM,nQ,List.dropWhile_cons,if_pos h];exact Z9 h t n
theorem Xt{set:uBl}{c:UInt8}(h:set.contains c=false)(t:uBl){n:Nat}(hn:1<=n):(rp n c++t).dropWhile (set.contains ·)=rp n c++t:=by
 obtain⟨m,rfl⟩:∃m,n=m+1:=⟨n-1,by omega⟩
 rw[rp,nM,nQ,List.dropWhile_cons,if_neg (by rw[h];simp)]
theorem zjd(n:Nat)(c:UInt8):(rp n c).reverse=rp n c:=List.reverse_replicate ..
theorem zgb(s:uBl)(c x:UInt8):Lib.hasSuffix (s++[x]) [c]=decide (x=c):=by
 unfold Lib.hasSuffix;rw[nZ,decide_eq_true_eq,List.isSuffixOf_iff_suffix];constructor
 ·rintro⟨t,ht⟩;have:=congrArg List.getLast? ht;simpa using this.symm
 ·rintro rfl;exact⟨s,rfl⟩
theorem zlR(n:Nat)(c:UInt8):rp (n+1) c=rp n c++[c]:=List.replicate_succ'
theorem zhF(s:uBl)(c x:UInt8):(s++[x]).take ((s++[x]).length-[c].length)=s:=by
 have:(s++[x]).length-[c].length=s.length:=by simp
 rw[this,List.take_left]
theorem zr1{r:uBl}{d:Nat}{sc:Int}(h:znD r d sc):zcq r=some (d,sc):=by
 rcases h with⟨c,f,hc,rfl,rfl,rfl⟩|⟨a,b,c,ha,hc,rfl,hd,rfl⟩|⟨c,k,e,hc,hk,he,rfl,hd,rfl⟩
 ·have e1:(rp c 57++((86:UInt8)::rp f 57)).count 57=c+f:=by rw[mY,List.count_cons_of_ne (by decide),zr,zr];rfl
  have e2:(rp c 57++((86:UInt8)::rp f 57)).count 86=1:=by rw[mY,List.count_cons_self,zr,zr];rfl
  have e3:(rp c 57++((86:UInt8)::rp f 57)).count 80=0:=by rw[mY,List.count_cons_of_ne (by decide),zr,zr];rfl
  have e4:Lib.cut (rp c 57++((86:UInt8)::rp f 57)) [86]=(rp c 57,rp f 57,true):=zu0 (by rw[zr];rfl);unfold zcq;rw[e1,e2,e3,e4,if_neg (by omega),if_pos rfl,if_pos ⟨by rw[yJ];simp,by rw[yJ];simp⟩];simp
 ·obtain rfl:c=d:=hd.symm;have e1:(rp a 86++(rp b 80++rp c 57)).count 57=c:=by rw[mY,mY,zr,zr,zr];simp
  have e2:(rp a 86++(rp b 80++rp c 57)).count 86=a:=by rw[mY,mY,zr,zr,zr];simp
  have e3:(rp a 86++(rp b 80++rp c 57)).count 80=b:=by rw[mY,mY,zr,zr,zr];simp
  unfold zcq;rw[e1,e2,e3,if_neg (by omega)];by_cases hb:b=0
  ·subst hb;rw[if_pos rfl];by_cases h0:a=0
   ·subst h0;rw[show(rp 0 86++(rp 0 80++rp c 57))=rp c 57 from rfl,zm7 (by rw[zr];rfl),if_pos ⟨by rw[yJ];simp,rfl⟩,if_pos (by simp)];rfl
   ·have:a=1:=by omega
    subst this;rw[show(rp 1 86++(rp 0 80++rp c 57))=[]++86::rp c 57 from rfl,zu0 rfl,if_pos ⟨rfl,by rw[yJ];simp⟩,if_neg (by omega)];simp
  ·rw[if_neg hb];have e5:Lib.trimLeftS (rp a 86++(rp b 80++rp c 57)) [86,80]=rp c 57:=by unfold Lib.trimLeftS;rw[Z9 rfl,Z9 rfl];have:=Xt (set:=[86,80]) (c:=57) rfl [] (n:=c) hc;rw[nE]at this;exact this
   rw[e5,if_pos,if_neg (by omega)];refine⟨by rw[yJ];simp,?_⟩;by_cases h0:a=0
   ·left;subst h0;rw[zm7 e2]
   ·right;have:a=1:=by omega
    subst this;rfl
 ·obtain rfl:c=d:=hd.symm;have e1:(rp c 57++(rp k 80++rp e 86)).count 57=c:=by rw[mY,mY,zr,zr,zr];simp
  have e2:(rp c 57++(rp k 80++rp e 86)).count 86=e:=by rw[mY,mY,zr,zr,zr];simp
  have e3:(rp c 57++(rp k 80++rp e 86)).count 80=k:=by rw[mY,mY,zr,zr,zr];simp
  have e5:Lib.trimLeftS (rp c 57++(rp k 80++rp e 86)) [86,80]=rp c 57++(rp k 80++rp e 86):=Xt rfl _ hc;have e6:cnt [57] (rp c 57++(rp k 80++rp e 86))=c:=by rw[Yx,yI (by decide) _ hk];rfl
  have e7:Lib.trimSuffix (rp c 57++(rp k 80++rp e 86)) [86]=rp c 57++rp k 80:=by
   unfold Lib.trimSuffix;by_cases h0:e=0
   ·subst h0;obtain⟨m,rfl⟩:∃m,k=m+1:=⟨k-1,by omega⟩
    rw[show rp (m+1) 80++rp 0 86=rp m 80++[80]by rw[zlR];simp,<-mP,zgb,if_neg (by simp),zlR,mP]
   ·have:e=1:=by omega
    subst this;rw[show rp 1 86=[86]from rfl,<-mP,zgb,if_pos (by simp)];exact zhF _ _ _
  have e8:Lib.trimRightS (rp c 57++rp k 80) [80]=rp c 57:=by unfold Lib.trimRightS;rw[List.reverse_append,zjd,zjd,Z9 rfl];have:=Xt (set:=[80]) (c:=57) rfl [] (n:=c) hc;rw[nE]at this;rw[this,zjd]
  unfold zcq;rw[e1,e2,e3,if_neg (by omega),if_neg (by omega),e5,e6,if_neg (by simp;omega),e7,e8,if_pos (by rw[yJ];simp)]
theorem zvj{c:UInt8}{l:uBl}(h:∀x∈l,x=c):l=rp l.length c:=List.eq_replicate_iff.2 ⟨rfl,h⟩
theorem zq0{l:uBl}{a b:UInt8}(h:∀x∈l,x=a\/x=b)(h0:l.count a=0):l=rp l.length b:=by
 refine zvj fun x hx=>?_
 rcases h x hx with rfl|h
 ·exact absurd hx (uAO.1 h0)
 ·exact h
theorem Wm{set:uBl}{l:uBl}:∀x∈l.takeWhile (set.contains ·),set.contains x=true:=by
 induction l with
 |nil=>intro x hx;cases hx
 |cons y l ih=>
  intro x hx;rw[List.takeWhile_cons]at hx;split at hx
  ·rename_i hy;rcases mX.1 hx with rfl|hx
   ·exact hy
   ·exact ih x hx
  ·cases hx
theorem zrH{r:uBl}{d:Nat}{sc:Int}(h:zcq r=some (d,sc)):∃d sc,znD r d sc:=by
 unfold zcq at h;split at h
 ·cases h
 ·rename_i h1;split at h
  ·rename_i h2;split at h
   ·rename_i h3;obtain⟨h3,h4⟩:=h3;rcases cut1 r 86 with⟨hc,h5⟩|⟨i,hi,hg,hc,h5⟩
    ·rw[hc]at h3;obtain⟨n,hn⟩:=KU h3;replace hn:r=rp n 57:=hn;refine⟨n,0,.inr (.inl ⟨0,0,n,by omega,?_,hn,rfl,by simp⟩)⟩;have:r.count 57=n:=by rw[hn,zr];rfl
     omega
    ·rw[hc]at h3 h4;obtain⟨n,hn⟩:=KU h3;obtain⟨f,hf⟩:=KU h4;replace hn:r.take i=rp n 57:=hn;replace hf:r.drop (i+1)=rp f 57:=hf;have hr:r=rp n 57++(86::rp f 57):=by rw[<-hn,<-hf,<-hg,<-jb hi,mR]
     by_cases h0:n=0
     ·subst h0;refine⟨f,f,.inr (.inl ⟨1,0,f,by omega,?_,hr,rfl,by simp⟩)⟩;have:r.count 57=f:=by rw[hr,mY,List.count_cons_of_ne (by decide),zr,zr];simp
      omega
     ·exact⟨n+f,f,.inl ⟨n,f,by omega,hr,rfl,rfl⟩⟩
   ·cases h
  ·rename_i h2;have hsplit:r=r.takeWhile (([86,80]:uBl).contains ·)++Lib.trimLeftS r [86,80]:=(List.takeWhile_append_dropWhile).symm;have hmem:∀x∈r.takeWhile (([86,80]:uBl).contains ·),x=86\/x=80:=fun x hx=>by have:=Wm x hx;simpa using this
   split at h
   ·rename_i h3;obtain⟨h3,h4⟩:=h3;obtain⟨c,hc⟩:=KU h3;rw[hc]at hsplit;have h57:(r.takeWhile (([86,80]:uBl).contains ·)).count 57=0:=uAO.2 fun hm=>by rcases hmem _ hm with h|h<;>cases h
    have hc1:r.count 57=c:=by have:=congrArg (List.count 57) hsplit;rw[mY,h57,zr]at this;simpa using this
    by_cases h86:(r.takeWhile (([86,80]:uBl).contains ·)).count 86=0
    ·have:=zq0 hmem h86;rw[this]at hsplit;exact⟨c,_,.inr (.inl ⟨0,_,c,by omega,by omega,hsplit,rfl,rfl⟩)⟩
    ·have hr86:r.count 86=(r.takeWhile (([86,80]:uBl).contains ·)).count 86:=by have:=congrArg (List.count 86) hsplit;rw[mY,zr]at this;simpa using this
     rcases h4 with h4|h4
     ·exfalso;rcases cut1 r 86 with⟨hcc,h5⟩|⟨i,hi,hg,hcc,h5⟩
      ·omega
      ·rw[hcc]at h4;cases h4
     ·cases hT:r.takeWhile (([86,80]:uBl).contains ·)with
      |nil=>rw[hT]at h86;exact absurd rfl h86
      |cons y T=>
       rw[hT]at hsplit hmem hr86;have hy:y=86:=by rw[hsplit]at h4;simpa using h4
       subst hy;rw[List.count_cons_self]at hr86;have:=zq0 (fun x hx=>hmem x (by simp[hx])) (show T.count 86=0 by omega);rw[this]at hsplit;exact⟨c,_,.inr (.inl ⟨1,_,c,by omega,by omega,hsplit,rfl,rfl⟩)⟩
   ·split at h
    ·rename_i h3 h4;obtain⟨c,hc⟩:=KU h4;have hs:∃k,Lib.trimSuffix r [86]=rp c 57++rp k 80:=by have:=(List.takeWhile_append_dropWhile (p:=(([80]:uBl).contains ·)) (l:=(Lib.trimSuffix r [86]).reverse)).symm;have h5:=zvj (c:=80) (l:=(Lib.trimSuffix r [86]).reverse.takeWhile (([80]:uBl).contains ·)) (fun x hx=>by have:=Wm x hx;simpa using this);rw[h5]at this;have h6:=congrArg List.reverse this;rw[List.reverse_reverse,List.reverse_append,zjd]at h6;unfold Lib.trimRightS at hc;rw[hc]at h6;exact⟨_,h6⟩
     obtain⟨k,hk⟩:=hs;have hr:∃e,e<=1/\r=rp c 57++(rp k 80++rp e 86):=by
      unfold Lib.trimSuffix at hk;split at hk
      ·rename_i h5;unfold Lib.hasSuffix at h5;obtain⟨t,ht⟩:=List.isSuffixOf_iff_suffix.1 h5;refine⟨1,by omega,?_⟩;rw[<-ht]at hk⊢;rw[zhF]at hk;rw[hk,mP];rfl
      ·exact⟨0,by omega,by rw[hk];simp⟩
     obtain⟨e,he,hr⟩:=hr;have e1:r.count 57=c:=by rw[hr,mY,mY,zr,zr,zr];simp
     have e3:r.count 80=k:=by rw[hr,mY,mY,zr,zr,zr];simp
     exact⟨c,_,.inr (.inr ⟨c,k,e,by omega,by omega,he,hr,rfl,rfl⟩)⟩
    ·cases h
theorem zrG(r:uBl):zcq r=zaZ r:=by
 cases h:zaZ r with
 |some x=>exact zr1 (numS_form h)
 |none=>
  cases h2:zcq r with
  |none=>rfl
  |some y=>obtain⟨d,sc,hf⟩:=zrH h2;rw[zr0 hf]at h;cases h
end Go.Proofs.C06
end
section
set_option maxRecDepth 100000
namespace Go.Proofs.C06
open Go Go.RowKit Go.Vc Go.Am
def qw(c:UInt8):Bool:=([66,48,47,44]:uBl).contains c
def noIns(s:uBl):uBl:=s.filter (fun c=>!qw c)
theorem Q4(c:UInt8)(s:uBl):noIns (c::s)=if qw c then noIns s else c::noIns s:=by unfold noIns;rw[List.filter_cons];cases qw c<;>rfl
theorem zzt(s:uBl)(i:Nat):(bs s).get! i=s.getD i 0:=by show s.toArray[i]! =_;rw[List.getElem!_toArray,List.getElem!_eq_getElem?_getD,mI];rfl
theorem WC(s:uBl)(i:Nat)(h:(s.getD i 0).toNat<128):Utf8.decode (bs s) i=((s.getD i 0).toNat,1):=by unfold Utf8.decode;simp only[uAf,zzt];rw[if_pos h]
theorem Z3{s:uBl}{i:Nat}(h:(s.getD i 0).toNat<128):qj s i=((s.getD i 0).toNat:Int):=by unfold qj;rw[WC s i h]
theorem Zs{s:uBl}{i:Nat}(h:(s.getD i 0).toNat<128):widthAt s i=1:=by unfold widthAt;rw[WC s i h]
theorem zdt(N:Nat){c:UInt8}(h:c.toNat<128):zbw N (c.toNat:Int)=some (if qw c then-1 else(c.toNat:Int)):=by unfold zbw YL;rw[decide_eq_true (by omega),decide_eq_true (by omega)];simp only[uAH,za,zc,WN,jC];unfold qw;cases([66,48,47,44]:uBl).contains c<;>rfl
theorem VJ{s:uBl}{i:Nat}(h:i<s.length):s.getD i 0∈s:=by rw[VK h];exact uBb h
theorem znS(c:UInt8):[(c.toNat:Int)].map toByte=[c]:=by
 show[toByte (c.toNat:Int)]=[c]
 unfold toByte;simp
theorem ZU{N:Nat}(s:uBl)(hs:s.length<=400)(ha:∀c∈s,c.toNat<128):∀(n i:Nat)(out:uBl),i<=s.length->s.length-i<n->out.length<=400+i->
  qJ N n s i out=some (out++noIns (s.drop i))
 |0,i,out,_,h,_=>by omega
 |n+1,i,out,hi,h,ho=>by
  show JH N (qJ N n) s i out=_;unfold JH;by_cases hlt:i<s.length
  ·have hc:=ha _ (VJ hlt);rw[show Nat.blt i s.length=true from nC hlt,cond_true,Z3 hc,zdt N hc,zc,Zs hc,jb hlt,Q4,zb];cases hd:qw (s.getD i 0)with
   |true=>rw[if_pos rfl,if_neg (by omega),if_pos rfl];exact ZU s hs ha n (i+1) out (by omega) (by omega) (by omega)
   |false=>simp only[nB,if_false];rw[if_pos (by omega),zb,if_pos (by omega),ze6 (by omega) (by omega)];unfold KZ;rw[show inKb .u8 ((s.getD i 0).toNat:Int)=true from yh.2 ⟨by show(0:Int)<=_;omega,by show _<=(255:Int);omega⟩];rw[uAS,za,znS,Zv (by simp;omega),za,zc,ZU s hs ha n (i+1) _ (by omega) (by omega) (by simp;omega),mP];rfl
  ·rw[show Nat.blt i s.length=false from Bool.eq_false_iff.2 (fun e=>hlt (mT e)),cond_false,nW (by omega)];unfold Kk;rw[decide_eq_true (by omega),za,zc];simp[noIns]
theorem XH{N:Nat}(hN:1000<N)(s:uBl)(hs:s.length<=400)(ha:∀c∈s,c.toNat<128):∀(n i:Nat),i<=s.length->s.length-i<n->
  yN N n s s i=some (s.take i++noIns (s.drop i))
 |0,i,_,h=>by omega
 |n+1,i,hi,h=>by
  show JI N (yN N n) s s i=_;unfold JI;by_cases hlt:i<s.length
  ·have hc:=ha _ (VJ hlt);rw[show Nat.blt i s.length=true from nC hlt,cond_true,Z3 hc,zdt N hc,zc,Zs hc,jb hlt,Q4,zb];cases hd:qw (s.getD i 0)with
   |true=>
    rw[if_pos rfl,if_neg (by omega),if_pos rfl];unfold Z5;rw[zb,if_neg (by omega)];have hrl:JL ((s.getD i 0).toNat:Int)=some 1:=by unfold JL Lib.runeLen;rw[if_neg (by omega),if_pos (by omega)]
    rw[hrl,zc,zn (by omega) (by omega),za];have hg:zaw N ((s.length:Int)+4)=some []:=by
     unfold zaw;rw[decide_eq_false (by omega),cond_false,decide_eq_true (by omega),cond_true];have:QX ((s.length:Int)+4)=true:=by rw[show((s.length:Int)+4)=Int.ofNat (s.length+4)from rfl];unfold QX;simp only[nC (show 1<=s.length+4 by omega),nC (show s.length+4<=281474976710656 by omega)];rfl
     rw[this,za,zc]
    rw[hg,zc,zB.2 ⟨by omega,by omega,by omega⟩,za];unfold Jc;have ht:jm s (i:Int)=s.take i:=rfl;rw[ht,uAs,Zv (by rw[mJ];omega),za,zc,decide_eq_false (by omega),cond_false];rw[show((i:Int)+1)=((i+1:Nat):Int)by omega,zn (by omega) (by omega),za,zB.2 ⟨by omega,by omega,by omega⟩,za];unfold zgP;rw[zc,zcN];have:=ZU (N:=N) (s.drop (i+1)) (by rw[mL];omega) (fun c hc=>ha c (uBi hc)) N 0 (s.take i) (by omega) (by rw[mL];omega) (by rw[mJ];omega);rw[this,uAa]
   |false=>simp only[nB,if_false];rw[if_true,decide_eq_false (by omega),Bool.not_false,cond_true,XH hN s hs ha n (i+1) (by omega) (by omega)];rw[uBk,mP];congr 2;rw[mG hlt,<-VK hlt];rfl
  ·rw[show Nat.blt i s.length=false from Bool.eq_false_iff.2 (fun e=>hlt (mT e)),cond_false,nW (by omega),nP (by omega)];simp[noIns]
theorem zhf{N:Nat}(hN:1000<N){s:uBl}(hs:s.length<=400)(ha:∀c∈s,c.toNat<128):Vy N s=some (noIns s):=by unfold Vy;have:=XH hN s hs ha N 0 (by omega) (by omega);simpa using this
end Go.Proofs.C06
end
