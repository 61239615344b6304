/-
  A part of the proof of the laws.
-/
import Derived.Test.YtdkkileemeopbaaGreatDoorAm1
import Derived.Test.YtdkkileemeopbaaGreatDoorS2
section
namespace Go.Proofs.C06
open Go Go.RowKit Go.Vc Go.Am
theorem zh{n:Int}(h1: -9223372036854775808<=n)(h2:n<=9223372036854775807):zd .i64 n=true:=
 yA.2 ⟨h1,h2⟩
theorem zb{α:Type}{p:Prop}[Decidable p]{a b:α}:cond (decide p) a b=if p then a else b:=by by_cases h:p<;>simp[h]
theorem zg{α:Type}{p:Prop}[Decidable p]{a b:α}:cond (!decide p) a b=if p then b else a:=by by_cases h:p<;>simp[h]
end Go.Proofs.C06
end
section
set_option maxRecDepth 100000
namespace Go.Proofs.C06
open Go Go.RowKit Go.Vc Go.Am
theorem jm{i n:Nat}(h:i<n):zn (i:Int) n=true:=zt.2 ⟨by omega,by omega⟩
theorem zJ(s:uBp)(i:Nat):byteAt s (i:Int)=((s.getD i 0).toNat:Int):=rfl
theorem Wa{s:uBp}{i:Nat}(h:i<s.length):s.getD i 0=s[i]:=by rw[mE,mC h];rfl
theorem zM{s:uBp}{i:Nat}(h:i<s.length):s.drop i=s.getD i 0::s.drop (i+1):=by rw[uAk h,Wa h]
theorem W7(c:UInt8):((c.toNat:Int).toNat.toUInt8)=c:=by simp
theorem YF{a b:UInt8}:((a.toNat:Int)=(b.toNat:Int))↔a=b:=by rw[Int.ofNat_inj,UInt8.toNat_inj]
def cnt(set s:uBp):Nat:=(s.takeWhile (set.contains ·)).length
theorem zpO(set:uBp):cnt set []=0:=rfl
theorem qd(set:uBp)(c:UInt8)(s:uBp):cnt set (c::s)=if set.contains c then cnt set s+1 else 0:=by unfold cnt;rw[List.takeWhile_cons];split<;>simp_all
theorem YY(set s:uBp):cnt set s<=s.length:=by unfold cnt;exact List.Sublist.length_le (List.takeWhile_sublist _)
theorem jF(c:UInt8):∀l:uBp,(0<=Lib.indexByte l c)↔l.contains c=true
 |[]=>by simp[Lib.indexByte]
 |b::l=>by
  have ih:=jF c l;have hg:=Lib.indexByte_ge l c;unfold Lib.indexByte;by_cases hb:b=c
  ·subst hb;simp
  ·have hb':¬(c=b):=fun e=>hb e.symm
   by_cases hm:Lib.indexByte l c= -1
   ·have:¬(0<=Lib.indexByte l c):=by omega
    rw[ih]at this;simp only[uAa];simp[hb,hb',hm];simpa using this
   ·have h0:0<=Lib.indexByte l c:=by omega
    have h1:=ih.1 h0;simp only[uAa];simp[hb,hb',hm];exact⟨fun _=>by simpa using h1,fun _=>by omega⟩
theorem zbg(N:Nat)(c:UInt8)(set:uBp):zi6 N (c.toNat:Int) set=some (set.contains c):=by unfold zi6 ye;simp only[zc,W7];congr 1;rw[uAi];simp only[decide_eq_true_eq,jF]
theorem zbT(N:Nat)(s set:uBp)(f:Nat)(hs:s.length<=4611686018427387904):∀(n k:Nat),f+k<=s.length->s.length-(f+k)<n->
  Yb N n s (f:Int) set (k:Int)=some ((k+cnt set (s.drop (f+k)):Nat):Int)
 |0,k,_,h=>by omega
 |n+1,k,hk,h=>by
  show XH N (Yb N n) s f set k=_;unfold XH;have e:((f:Int)+(k:Int))=((f+k:Nat):Int):=by omega
  rw[e,zh (by omega) (by omega),za,zb];by_cases hlt:f+k<s.length
  ·rw[if_pos (by omega),za,jm hlt,za,zJ,zbg,zc,zM hlt,qd];cases hc:set.contains (s.getD (f+k) 0)
   ·simp
   ·simp only[cond_true,if_true];have e2:((k:Int)+1)=((k+1:Nat):Int):=by omega
    rw[e2,zh (by omega) (by omega),za,zbT N s set f hs n (k+1) (by omega) (by omega)];congr 2;rw[show f+(k+1)=f+k+1 by omega];omega
  ·rw[if_neg (by omega),nW (by omega)];rfl
theorem YB{N:Nat}{s set:uBp}{f:Nat}(hs:s.length<=4611686018427387904)(hN:s.length<N)(hf:f<=s.length):jd N s (f:Int) set=some ((cnt set (s.drop f):Nat):Int):=by unfold jd;have:=zbT N s set f hs N 0 (by omega) (by omega);simpa using this
end Go.Proofs.C06
end
section
set_option maxRecDepth 100000
namespace Go.Proofs.C06
open Go Go.RowKit Go.Vc Go.Am
def syms:uBp:=[65,88,57,83,86,80,90,42,43,45,46,44,36,66,48,47,67,82,68]
def digs:uBp:=[48,49,50,51,52,53,54,55,56,57]
def valP(a:Nat)(l:uBp):Nat:=l.foldl (fun a c=>a*10+(c.toNat-48)) a
theorem zf8(c:UInt8):digs.contains c=true↔48<=c.toNat/\c.toNat<=57:=by unfold digs;simp only[uAa,uBo,uAV,nP,beq_iff_eq];rw[<-UInt8.toNat_inj,<-UInt8.toNat_inj,<-UInt8.toNat_inj,<-UInt8.toNat_inj,<-UInt8.toNat_inj,<-UInt8.toNat_inj,<-UInt8.toNat_inj,<-UInt8.toNat_inj,<-UInt8.toNat_inj,<-UInt8.toNat_inj];simp only[UInt8.reduceToNat];omega
theorem zdv:∀(l:uBp)(a:Nat),(∀c∈l,digs.contains c=true)->Lib.decFrom a l=some (valP a l)
 |[],a,_=>rfl
 |c::l,a,h=>by
  have h1:=(zf8 c).1 (h c (by simp));have h2:=zdv l (a*10+(c.toNat-48)) (fun x hx=>h x (by simp[hx]));unfold Lib.decFrom;have:Lib.digitVal c=some (c.toNat-48):=by unfold Lib.digitVal;rw[if_pos h1]
  rw[this];exact h2
theorem zt1{l:uBp}(h:∀c∈l,digs.contains c=true)(hne:l≠[]):Lib.atoi l=some ((valP 0 l:Nat):Int):=by
 cases l with
 |nil=>exact absurd rfl hne
 |cons b r=>
  have h1:=(zf8 b).1 (h b (by simp));have hb1:(b==45)=false:=by rw[beq_eq_false_iff_ne];intro e;subst e;simp at h1
  have hb2:(b==43)=false:=by rw[beq_eq_false_iff_ne];intro e;subst e;simp at h1
  unfold Lib.atoi;have:=zdv (b::r) 0 h;simp only[hb1,hb2,nC,if_false,Lib.decNat,List.isEmpty_cons,this];rfl
theorem ziz:∀(l:uBp)(a:Nat),(∀c∈l,digs.contains c=true)->valP a l<(a+1)*10^l.length
 |[],a,_=>by simp[valP]
 |c::l,a,h=>by have h1:=(zf8 c).1 (h c (by simp));have h2:=ziz l (a*10+(c.toNat-48)) (fun x hx=>h x (by simp[hx]));show valP (a*10+(c.toNat-48)) l<_;refine uAJ h2 ?_;rw[mI,Nat.pow_succ',<-nL];exact nQ _ (by omega)
theorem Q1(set:uBp)(s:uBp):∀k,k<=cnt set s->∀c∈s.take k,set.contains c=true:=by
 induction s with
 |nil=>intro k _ c hc;simp at hc
 |cons x s ih=>
  intro k hk c hc;rw[qd]at hk;cases k with
  |zero=>simp at hc
  |succ k=>
   split at hk
   ·rename_i hx;simp only[uAh,mU]at hc;rcases hc with rfl|hc
    ·exact hx
    ·exact ih k (by omega) c hc
   ·omega
def rep(t:uBp):Option (Nat×Nat):=if t.getD 0 0=40 then if 1<=cnt digs (t.drop 1)/\cnt digs (t.drop 1)<=5/\t.getD (cnt digs (t.drop 1)+1) 0=41/\valP 0 ((t.drop 1).take (cnt digs (t.drop 1)))≠0 then some (valP 0 ((t.drop 1).take (cnt digs (t.drop 1))),cnt digs (t.drop 1)+2)else none else some (1,0)
theorem zsl{t:uBp}{m z:Nat}(h:rep t=some (m,z)):m<=99999/\1<=m/\z<=t.length/\z<=7:=by
 unfold rep at h;split at h
 ·split at h
  ·rename_i h1 h2;cases h;obtain⟨a,b,c,d⟩:=h2;have hv:=ziz ((t.drop 1).take (cnt digs (t.drop 1))) 0 (Q1 digs _ _ (mG _));have hl:((t.drop 1).take (cnt digs (t.drop 1))).length<=5:=by rw[mH];omega
   have hp:10^((t.drop 1).take (cnt digs (t.drop 1))).length<=10^5:=nR (by omega) hl;have hlt:cnt digs (t.drop 1)+1<t.length:=by
    rcases uAS (cnt digs (t.drop 1)+1) t.length with h|h
    ·exact h
    ·rw[mE,uAo h]at c;cases c
   refine⟨?_,by omega,by omega,by omega⟩;have:(10:Nat)^5=100000:=rfl;omega
  ·cases h
 ·cases h;omega
theorem zlO(t:uBp):Lib.hasPrefix t [40]=decide (t.getD 0 0=40):=by
 unfold Lib.hasPrefix;cases t with
 |nil=>rfl
 |cons c t=>simp only[List.isPrefixOf,uAg,List.getD_cons_zero];rw[uAi];simp only[beq_iff_eq,decide_eq_true_eq];exact eq_comm
theorem zo2(l:uBp)(a b:Nat):Vc.sub l (a:Int) (b:Int)=(l.take b).drop a:=by simp[Vc.sub]
theorem zno{N:Nat}{t:uBp}(ht:t.length<=1000)(hN:1000<N):∃a b,za9 N t=some (a,b,(rep t).isSome)/\∀m z,rep t=some (m,z)->a=(m:Int)/\b=(z:Int):=by
 unfold za9 zam;rw[zc,zlO,zg];by_cases h0:t.getD 0 0=40
 ·rw[if_pos h0];have hlen:1<=t.length:=by
   cases t with
   |nil=>cases h0
   |cons _ _=>simp
  have hc:=YB (N:=N) (s:=t) (set:=digs) (f:=1) (by omega) (by omega) hlen;have hc':jd N t 1 [48,49,50,51,52,53,54,55,56,57]=some ((cnt digs (t.drop 1):Nat):Int):=hc;rw[show of_ N [48,49,50,51,52,53,54,55,56,57]=some [48,49,50,51,52,53,54,55,56,57]from rfl,zc,hc',zc];have hle:=YY digs (t.drop 1);rw[mJ]at hle;unfold rep;rw[if_pos h0];generalize hd:cnt digs (t.drop 1)=d at hle;rw[zb];by_cases h1:d<1
  ·rw[if_pos (by omega),if_neg (by omega)];exact⟨_,_,rfl,fun _ _ h=>by cases h⟩
  ·rw[if_neg (by omega),zb];by_cases h2:5<d
   ·rw[if_pos (by omega),if_neg (by omega)];exact⟨_,_,rfl,fun _ _ h=>by cases h⟩
   ·have e1:((d:Int)+1)=((d+1:Nat):Int):=by omega
    have e2:((d:Int)+2)=((d+2:Nat):Int):=by omega
    rw[if_neg (by omega),e1,zh (by omega) (by omega),za,zb];by_cases h3:t.length<=d+1
    ·have:t.getD (d+1) 0=0:=by rw[mE,uAo h3];rfl
     rw[if_pos (by omega),if_neg (by rw[this];intro⟨_,_,h,_⟩;cases h)];exact⟨_,_,rfl,fun _ _ h=>by cases h⟩
    ·rw[if_neg (by omega),za,jm (by omega),za,zg,zJ];by_cases h4:t.getD (d+1) 0=41
     ·have hs:Vc.sub t 1 ((d+1:Nat):Int)=(t.drop 1).take d:=by rw[show((1:Int))=((1:Nat):Int)from rfl,zo2,List.take_drop];congr 1;rw[uAq]
      have hmem:∀c∈(t.drop 1).take d,digs.contains c=true:=Q1 digs _ _ (by omega);have hne:(t.drop 1).take d≠[]:=by intro e;have:=congrArg List.length e;rw[mH,mJ]at this;simp at this;omega
      have hat:zpy ((t.drop 1).take d)=some ((valP 0 ((t.drop 1).take d):Nat):Int):=by unfold zpy;rw[decide_eq_true (by rw[mH];omega),za];exact zt1 hmem hne
      have hv:=ziz _ 0 hmem;rw[if_pos (by rw[h4];rfl),zw.2 ⟨by omega,by omega,by omega⟩,za,hs,hat,zc,e2,zh (by omega) (by omega),za];by_cases h5:valP 0 ((t.drop 1).take d)=0
      ·rw[if_neg (by rw[h5];intro⟨_,_,_,h⟩;exact h rfl),h5];exact⟨_,_,rfl,fun _ _ h=>by cases h⟩
      ·rw[if_pos ⟨by omega,by omega,h4,h5⟩];exact⟨_,_,by rw[decide_eq_true (by omega)];rfl,fun _ _ h=>by cases h;exact⟨rfl,rfl⟩⟩
     ·rw[if_neg (fun e=>h4 (UInt8.toNat_inj.1 (by
       have:(t.getD (d+1) 0).toNat=41:=by omega
       simpa using this))),if_neg (fun⟨_,_,h,_⟩=>h4 h)]
      exact⟨_,_,rfl,fun _ _ h=>by cases h⟩
 ·rw[if_neg h0];refine⟨1,0,?_,fun m z h=>?_⟩
  ·unfold rep;rw[if_neg h0];rfl
  ·unfold rep at h;rw[if_neg h0]at h;cases h;exact⟨rfl,rfl⟩
def items:uBp->Option (List (UInt8×Nat))
 |[]=>some []
 |c::r=>if syms.contains c=true then match rep r with
   |some (m,z)=>(items (r.drop z)).map ((c,m):: ·)
   |none=>none
  else none
termination_by s=>s.length
decreasing_by simp;omega
def tot:List (UInt8×Nat)->Nat
 |[]=>0
 |(_,m)::l=>m+tot l
def flat:List (UInt8×Nat)->uBp
 |[]=>[]
 |(c,m)::l=>List.replicate m c++flat l
def exR(all:Nat)(out:uBp):Option (List (UInt8×Nat))->uBp×Int
 |none=>([],4)
 |some l=>if all+tot l=0 then([],4)else if 256<all+tot l then([],3)else(out++flat l,0)
theorem zbI{all m:Nat}{c:UInt8}{out out':uBp}(x:Option (List (UInt8×Nat)))(hm:1<=m)(h:all+m<=256->out'=out++List.replicate m c):
  exR (all+m) out' x=exR all out (x.map ((c,m):: ·)):=by
 cases x with
 |none=>rfl
 |some l=>
  have e:tot ((c,m)::l)=m+tot l:=rfl;have ef:flat ((c,m)::l)=List.replicate m c++flat l:=rfl;show(if all+m+tot l=0 then([],4)else if 256<all+m+tot l then([],3)else(out'++flat l,0))=
   (if all+tot ((c,m)::l)=0 then(([]:uBp),(4:Int))else if 256<all+tot ((c,m)::l)then([],3)else(out++flat ((c,m)::l),0))
  by_cases hb:256<all+m+tot l
  ·rw[if_neg (show¬(all+m+tot l=0)by omega),if_neg (show¬(all+tot ((c,m)::l)=0)by omega),if_pos hb,if_pos (show 256<all+tot ((c,m)::l)by omega)]
  ·rw[if_neg (show¬(all+m+tot l=0)by omega),if_neg (show¬(all+tot ((c,m)::l)=0)by omega),if_neg hb,if_neg (show¬(256<all+tot ((c,m)::l))by omega),h (by omega),mK,ef]
theorem zgP(s:uBp)(i:Nat):toByte (byteAt s (i:Int))=s.getD i 0:=by unfold toByte;rw[zJ];simp
theorem zc9(c:UInt8):∀m,Lib.repeatL [c] m=List.replicate m c
 |0=>rfl
 |m+1=>by rw[Lib.repeatL,zc9 c m,nM];rfl
theorem jP{n:Nat}(h:n<=1000000):zF 1 n=true:=by unfold zF;rw[mD];exact⟨mX (by omega),mX (by omega)⟩
theorem KL(c:UInt8){m:Nat}(hm:m<=100000):jZ [c] (m:Int)=some (List.replicate m c):=by unfold jZ;rw[decide_eq_true (by omega),decide_eq_true (by omega),decide_eq_true (by simp;omega)];simp only[uAA,za,mP,zc9]
theorem ziq{N:Nat}{s:uBp}(h:s.length<=1000000):∃q,QT N s=some (q,s):=by unfold QT;rw[jP (by simpa using h),za];exact⟨_,rfl⟩
theorem zkr{N:Nat}{s l:uBp}(h:l.length+s.length<=1000000):∃q,VA N s l=some (q,l++s):=by unfold VA;rw[jP (by simpa using h),za];exact⟨_,rfl⟩
theorem zjX{s:uBp}{i:Nat}{c:UInt8}{r:uBp}(h:s.drop i=c::r):i<s.length/\s.getD i 0=c/\s.drop (i+1)=r:=by
 have hlt:i<s.length:=by
  rcases uAS i s.length with h'|h'
  ·exact h'
  ·rw[nW h']at h;cases h
 rw[zM hlt]at h;cases h;exact⟨hlt,rfl,rfl⟩
end Go.Proofs.C06
end
section
set_option maxRecDepth 100000
namespace Go.Proofs.C06
open Go Go.RowKit Go.Vc Go.Am
theorem zap(c:UInt8)(r:uBp):items (c::r)=if syms.contains c=true then match rep r with
   |some (m,z)=>(items (r.drop z)).map ((c,m):: ·)
   |none=>none
  else none:=by
 by_cases h:syms.contains c=true
 ·rw[items];all_goals simp only[if_pos h]
  all_goals (rcases rep r with _|⟨m,z⟩<;>rfl)
 ·rw[items];all_goals simp only[if_neg h]
theorem zvb(all:Nat)(out:uBp):exR all out (items [])=if all=0 then([],4)else if 256<all then([],3)else(out,0):=by rw[items];simp[exR,tot,flat]
theorem ZS{N:Nat}(hN:1000<N)(s:uBp)(hs:s.length<=400):∀(n i all:Nat)(out:uBp),i<=s.length->s.length-i<n->all<=99999*i->out.length<=256->(all<=256->out.length=all)->
  yj N n (.inr (s,(all:Int),(i:Int),out))=some (exR all out (items (s.drop i)))/\(out=[]->yj N n (.inl (s,(all:Int),(i:Int)))=some (exR all out (items (s.drop i))))
 |0,i,all,out,_,h,_,_,_=>by omega
 |n+1,i,all,out,hi,h,hall,ho,hoa=>by
  have step:∀(go:uBp×Int×Int×uBp->Option (uBp×Int))(go':uBp×Int×Int->Option (uBp×Int)),True:=fun _ _=>trivial
  rcases hd:s.drop i with _|⟨c,r⟩
  ·have hge:s.length<=i:=by have:=congrArg List.length hd;simp at this;omega
   rw[zvb];refine⟨?_,fun ho0=>?_⟩
   ·show q6 N (yj N n) s all i out=_;unfold q6;rw[zb,if_neg (by omega),zb];by_cases h0:all=0
    ·rw[if_pos (by omega),if_pos h0]
    ·rw[if_neg (by omega),if_neg h0,zb];by_cases h1:256<all
     ·rw[if_pos (by omega),if_pos h1]
     ·rw[if_neg (by omega),if_neg h1];unfold KI;rw[decide_eq_true (by omega),za,zc]
   ·subst ho0;show q7 N (yj N n) s all i=_;unfold q7;rw[zb,if_neg (by omega),zb];by_cases h0:all=0
    ·rw[if_pos (by omega),if_pos h0]
    ·rw[if_neg (by omega),if_neg h0,zb];by_cases h1:256<all
     ·rw[if_pos (by omega),if_pos h1]
     ·rw[if_neg (by omega),if_neg h1]
  ·obtain⟨hlt,hc,hr⟩:=zjX hd;have hrl:r.length=s.length-(i+1):=by rw[<-hr,mJ]
   obtain⟨a,b,hrep,hab⟩:=zno (N:=N) (t:=r) (by omega) hN;have e1:((i:Int)+1)=((i+1:Nat):Int):=by omega
   have hdrop:zX s ((i+1:Nat):Int)=r:=by unfold zX;simpa using hr
   have hin:∀set:uBp,(bnd (of_ N set) fun rr=>zi6 N (byteAt s (i:Int)) rr)=some (set.contains c):=by intro set;unfold of_;rw[zc,zJ,hc,zbg]
   have hof:∀set:uBp,zi6 N (byteAt s (i:Int)) set=some (set.contains c):=by intro set;rw[zJ,hc,zbg]
   have hc255:zd .u8 (byteAt s (i:Int))=true:=by rw[zJ];have:=(s.getD i 0).toNat_lt;exact yA.2 ⟨by show(0:Int)<=_;omega,by show _<=(255:Int);omega⟩
   have htb:[byteAt s (i:Int)].map toByte=[c]:=by rw[uAy,List.map_nil,zgP,hc]
   rw[zap];refine⟨?_,fun ho0=>?_⟩
   ·show q6 N (yj N n) s all i out=_;unfold q6;rw[zb,if_pos (by omega),jm hlt,za,e1,zh (by omega) (by omega),za,zw.2 ⟨by omega,by omega,by omega⟩,za,hdrop,hrep,zc];cases hro:rep r with
    |none=>simp only[Option.isSome_none,uA4,cond_true];split<;>rfl
    |some x=>
     obtain⟨m,z⟩:=x;obtain⟨rfl,rfl⟩:=hab m z hro;obtain⟨m1,m2,m3,m4⟩:=zsl hro;simp only[Option.isSome_some,uAb,cond_false];have hsy:of_ N [65,88,57,83,86,80,90,42,43,45,46,44,36,66,48,47,67,82,68]=some syms:=rfl;rw[hsy,zc,hof,zc];cases hsc:syms.contains c with
     |false=>rfl
     |true=>
      simp only[uAb,cond_false,if_true];have e2:((all:Int)+(m:Int))=((all+m:Nat):Int):=by omega
      have e3:((1:Int)+(z:Int))=((1+z:Nat):Int):=by omega
      have e4:((i:Int)+((1+z:Nat):Int))=((i+1+z:Nat):Int):=by omega
      have hdz:r.drop z=s.drop (i+1+z):=by rw[<-hr,nA]
      rw[e2,zh (by omega) (by omega),za,zb,hdz];by_cases hle:all+m<=256
      ·rw[if_pos (by omega),hc255,uAg,za,htb,KL c (by omega),zc];have hol:=hoa (by omega);obtain⟨q,hq⟩:=zkr (N:=N) (s:=List.replicate m c) (l:=out) (by rw[mN];omega);rw[hq,zc,e3,zh (by omega) (by omega),za,e4,zh (by omega) (by omega),za];have:=(ZS hN s hs n (i+1+z) (all+m) (out++List.replicate m c) (by omega) (by omega) (by omega) (by simp;omega) (fun _=>by simp;omega)).1;rw[this,zbI _ m2 (fun _=>rfl)]
      ·rw[if_neg (by omega),e3,zh (by omega) (by omega),za,e4,zh (by omega) (by omega),za];have:=(ZS hN s hs n (i+1+z) (all+m) out (by omega) (by omega) (by omega) ho (fun h=>by omega)).1;rw[this,zbI (c:=c) _ m2 (fun h=>by omega)]
   ·subst ho0;show q7 N (yj N n) s all i=_;unfold q7;rw[zb,if_pos (by omega),jm hlt,za,e1,zh (by omega) (by omega),za,zw.2 ⟨by omega,by omega,by omega⟩,za,hdrop,hrep,zc];cases hro:rep r with
    |none=>simp only[Option.isSome_none,uA4,cond_true];split<;>rfl
    |some x=>
     obtain⟨m,z⟩:=x;obtain⟨rfl,rfl⟩:=hab m z hro;obtain⟨m1,m2,m3,m4⟩:=zsl hro;simp only[Option.isSome_some,uAb,cond_false];have hsy:of_ N [65,88,57,83,86,80,90,42,43,45,46,44,36,66,48,47,67,82,68]=some syms:=rfl;rw[hsy,zc,hof,zc];cases hsc:syms.contains c with
     |false=>rfl
     |true=>
      simp only[uAb,cond_false,if_true];have e2:((all:Int)+(m:Int))=((all+m:Nat):Int):=by omega
      have e3:((1:Int)+(z:Int))=((1+z:Nat):Int):=by omega
      have e4:((i:Int)+((1+z:Nat):Int))=((i+1+z:Nat):Int):=by omega
      have hdz:r.drop z=s.drop (i+1+z):=by rw[<-hr,nA]
      rw[e2,zh (by omega) (by omega),za,zb,hdz];by_cases hle:all+m<=256
      ·rw[if_pos (by omega),hc255,uAg,za,htb,KL c (by omega),zc];have hol:=hoa (by omega);obtain⟨q,hq⟩:=ziq (N:=N) (s:=List.replicate m c) (by rw[mN];omega);rw[hq,zc,e3,zh (by omega) (by omega),za,e4,zh (by omega) (by omega),za];have:=(ZS hN s hs n (i+1+z) (all+m) (List.replicate m c) (by omega) (by omega) (by omega) (by simp;omega) (fun _=>by simp at hol⊢;omega)).1;rw[this,zbI (c:=c) (out:=[]) _ m2 (fun _=>by simp)]
      ·rw[if_neg (by omega),e3,zh (by omega) (by omega),za,e4,zh (by omega) (by omega),za];have:=(ZS hN s hs n (i+1+z) (all+m) [] (by omega) (by omega) (by omega) ho (fun h=>by omega)).2 rfl;rw[this,zbI (c:=c) _ m2 (fun h=>by omega)]
theorem zoP{N:Nat}(hN:1000<N){s:uBp}(hs:s.length<=400):zkk N s=some (exR 0 [] (items s)):=by unfold zkk;have:=(ZS hN s hs N 0 0 [] (by omega) (by omega) (by omega) (by simp) (fun _=>rfl)).2 rfl;simpa using this
end Go.Proofs.C06
end
section
set_option maxRecDepth 100000
namespace Go.Proofs.C06
open Go Go.RowKit Go.Vc Go.Am
theorem zeB{n:Int}(h1:0<=n)(h2:n<=255):IntKind.wrap .u8 n=n:=zaR ⟨h1,h2⟩
end Go.Proofs.C06
end
section
set_option maxRecDepth 100000
namespace Go.Proofs.C06
open Go Go.RowKit Go.Vc Go.Am
theorem zcK(s:uBp)(n:Nat):zX s (n:Int)=s.drop n:=rfl
def zbh(r:uBp):Option (Nat×Int):=
 if 1<cnt [86] r then none
 else if cnt [57] (r.drop (cnt [86] r+cnt [80] (r.drop (cnt [86] r))))=0 then none
 else if 0<cnt [80] (r.drop (cnt [86] r))then
  if cnt [86] r+cnt [80] (r.drop (cnt [86] r))+cnt [57] (r.drop (cnt [86] r+cnt [80] (r.drop (cnt [86] r))))=r.length then
   some (cnt [57] (r.drop (cnt [86] r+cnt [80] (r.drop (cnt [86] r)))),((cnt [57] (r.drop (cnt [86] r+cnt [80] (r.drop (cnt [86] r))))+cnt [80] (r.drop (cnt [86] r)):Nat):Int))else none
 else if 0<cnt [86] r then
  if cnt [86] r+cnt [57] (r.drop (cnt [86] r))=r.length then some (cnt [57] (r.drop (cnt [86] r)),((cnt [57] (r.drop (cnt [86] r)):Nat):Int))else none
 else
  let c:=cnt [57] r;let k:=cnt [80] (r.drop c)
  if 0<k then
   if c+k=r.length\/r.drop (c+k)=[86]then some (c,-(k:Int))else none
  else if c=r.length then some (c,0)
  else if r.getD c 0=86 then
   if c+1+cnt [57] (r.drop (c+1))=r.length then some (c+cnt [57] (r.drop (c+1)),((cnt [57] (r.drop (c+1)):Nat):Int))else none
  else none
def j2(p:uBp)(sg:Bool)(d:Nat)(sc:Int):Shape:=Shape.mk 4 0 p d sc sg false false false false d
def unS(p:uBp):uBp:=if p.getD 0 0=83 then p.drop 1 else p
def sgS(p:uBp):Bool:=decide (p.getD 0 0=83)
end Go.Proofs.C06
end
section
set_option maxRecDepth 100000
namespace Go.Proofs.C06
open Go Go.RowKit Go.Vc Go.Am
abbrev rp(n:Nat)(c:UInt8):uBp:=List.replicate n c
theorem YD(c:UInt8)(t:uBp):∀n,cnt [c] (rp n c++t)=n+cnt [c] t
 |0=>by simp[rp]
 |n+1=>by have:=YD c t n;rw[rp,nM,nU,qd,if_pos (by simp),this];omega
theorem yE{c x:UInt8}(h:c≠x)(t:uBp){n:Nat}(hn:1<=n):cnt [x] (rp n c++t)=0:=by
 obtain⟨m,rfl⟩:∃m,n=m+1:=⟨n-1,by omega⟩
 rw[rp,nM,nU,qd,if_neg (by simpa using h)]
theorem Vj{c x:UInt8}(h:c≠x)(t:uBp):cnt [x] (c::t)=0:=by rw[qd,if_neg (by simpa using h)]
theorem yF(c:UInt8)(n:Nat):cnt [c] (rp n c)=n:=by have:=YD c [] n;simpa[zpO]using this
theorem Vi{c x:UInt8}(h:c≠x)(n:Nat):cnt [x] (rp n c)=0:=by
 cases n with
 |zero=>rfl
 |succ n=>have:=yE h [] (n:=n+1) (by omega);simpa using this
theorem QJ(c:UInt8)(t:uBp)(n:Nat):(rp n c++t).drop n=t:=by rw[nT (by simp),nW (by simp)];rfl
theorem zcI(c:UInt8)(t:uBp)(n m:Nat):(rp n c++t).drop (n+m)=t.drop m:=by rw[<-nA,QJ]
theorem zrk(c:UInt8)(n:Nat):(rp n c).drop n=[]:=nW (by simp)
theorem Ju(c:UInt8):∀s:uBp,s=rp (cnt [c] s) c++s.drop (cnt [c] s)
 |[]=>rfl
 |x::s=>by
  by_cases h:x=c
  ·subst h;rw[qd,if_pos (by simp),uBd,rp,nM,nU,<-Ju x s]
  ·rw[Vj h];rfl
theorem zer{c:UInt8}{s:uBp}:cnt [c] s=s.length↔s=rp s.length c:=by
 constructor
 ·intro h;have:=Ju c s;rw[h,uA5,mV]at this;exact this
 ·intro h;rw[h,yF];simp
theorem Vk{c:UInt8}{s:uBp}(h:cnt [c] s=s.length):∃n,s=rp n c:=⟨_,zer.1 h⟩
def zmM(r:uBp)(d:Nat)(sc:Int):Prop:=(∃c f,1<=c/\r=rp c 57++(86::rp f 57)/\d=c+f/\sc=(f:Int))\/(∃a b c,a<=1/\1<=c/\r=rp a 86++(rp b 80++rp c 57)/\d=c/\sc=(if a=0/\b=0 then(0:Int)else((c+b:Nat):Int)))\/(∃c k e,1<=c/\1<=k/\e<=1/\r=rp c 57++(rp k 80++rp e 86)/\d=c/\sc= -(k:Int))
theorem zq1{r:uBp}{d:Nat}{sc:Int}(h:zmM r d sc):zbh r=some (d,sc):=by
 rcases h with⟨c,f,hc,rfl,rfl,rfl⟩|⟨a,b,c,ha,hc,rfl,hd,rfl⟩|⟨c,k,e,hc,hk,he,rfl,hd,rfl⟩
 ·have e1:cnt [86] (rp c 57++(86::rp f 57))=0:=yE (by decide) _ hc;have e2:cnt [80] (rp c 57++(86::rp f 57))=0:=yE (by decide) _ hc;have e3:cnt [57] (rp c 57++(86::rp f 57))=c:=by rw[YD,Vj (by decide)];rfl
  have e4:cnt [80] ((86:UInt8)::rp f 57)=0:=Vj (by decide) _;unfold zbh;simp only[e1,nS,e2,uAf,e3,QJ,e4];have g1:(rp c 57++((86:UInt8)::rp f 57)).length=c+(f+1):=by simp
  have g2:(rp c 57++((86:UInt8)::rp f 57)).getD c 0=86:=by rw[mE,nK (by simp)];simp
  have g3:(rp c 57++((86:UInt8)::rp f 57)).drop (c+1)=rp f 57:=by rw[zcI];rfl
  rw[if_neg (by omega),if_neg (by omega),if_neg (by omega),if_neg (by omega),if_neg (by omega),if_neg (by rw[g1];omega),if_pos g2,g3,yF,if_pos (by rw[g1];omega)]
 ·obtain rfl:c=d:=hd.symm;have e1:cnt [86] (rp a 86++(rp b 80++rp c 57))=a:=by
   rw[YD];by_cases hb:b=0
   ·subst hb;have:=Vi (c:=57) (x:=86) (by decide) c;simp only[rp,List.replicate_zero,nX]at*;omega
   ·rw[yE (by decide) _ (by omega)];rfl
  have e2:cnt [80] (rp b 80++rp c 57)=b:=by rw[YD,Vi (by decide)];rfl
  have g1:(rp a 86++(rp b 80++rp c 57)).length=a+(b+c):=by simp
  have g2:(rp a 86++(rp b 80++rp c 57)).drop (a+b)=rp c 57:=by rw[zcI,QJ]
  unfold zbh;simp only[e1,QJ,e2,g2,yF,g1];rw[if_neg (by omega),if_neg (by omega)];by_cases hb:0<b
  ·rw[if_pos hb,if_pos (by omega),if_neg (by omega)]
  ·have hb0:b=0:=by omega
   subst hb0;rw[if_neg (by omega)];have e3:(rp 0 80++rp c 57:uBp)=rp c 57:=rfl;by_cases ha1:0<a
   ·rw[if_pos ha1,e3,yF,if_pos (by omega),if_neg (by omega)];rfl
   ·have ha0:a=0:=by omega
    subst ha0;rw[if_neg (by omega)];have e4:(rp 0 86++(rp 0 80++rp c 57):uBp)=rp c 57:=rfl;simp only[e4,yF,zrk,zpO];rw[if_neg (by omega),if_pos (by omega),if_pos (by simp)]
 ·obtain rfl:c=d:=hd.symm;have e1:cnt [86] (rp c 57++(rp k 80++rp e 86))=0:=yE (by decide) _ hc;have e2:cnt [80] (rp c 57++(rp k 80++rp e 86))=0:=yE (by decide) _ hc;have e3:cnt [57] (rp c 57++(rp k 80++rp e 86))=c:=by rw[YD,yE (by decide) _ hk];rfl
  have e4:cnt [80] (rp k 80++rp e 86)=k:=by rw[YD,Vi (by decide)];rfl
  have g1:(rp c 57++(rp k 80++rp e 86)).length=c+(k+e):=by simp
  have g3:(rp c 57++(rp k 80++rp e 86)).drop (c+k)=rp e 86:=by rw[zcI,QJ]
  unfold zbh;simp only[e1,nS,e2,uAf,e3,QJ,e4,g1,g3];rw[if_neg (by omega),if_neg (by omega),if_neg (by omega),if_neg (by omega),if_pos (by omega),if_pos];by_cases h:e=0
  ·left;omega
  ·right;rw[show e=1 by omega];rfl
theorem numS_form{r:uBp}{d:Nat}{sc:Int}(h:zbh r=some (d,sc)):zmM r d sc:=by
 unfold zbh at h;have s1:=Ju 86 r;generalize cnt [86] r=a at*
 generalize hr1:r.drop a=r1 at*
 have s2:=Ju 80 r1;have d2:r.drop (a+cnt [80] r1)=r1.drop (cnt [80] r1):=by rw[<-hr1,nA]
 rw[d2]at h;have hl:=congrArg List.length s1;rw[mM,mN]at hl;have hb:=YY [80] r1;split at h
 ·cases h
 ·rename_i h1;split at h
  ·cases h
  ·rename_i h2;split at h
   ·rename_i h3;split at h
    ·rename_i h4;cases h;refine .inr (.inl ⟨a,cnt [80] r1,cnt [57] (r1.drop (cnt [80] r1)),by omega,by omega,?_,rfl,by rw[if_neg (by omega)]⟩);have h5:cnt [57] (r1.drop (cnt [80] r1))=(r1.drop (cnt [80] r1)).length:=by rw[mJ];omega
     rw[zer.1 h5]at s2;rw[s2]at s1;rw[h5];exact s1
    ·cases h
   ·rename_i h3;have hb0:cnt [80] r1=0:=by omega
    rw[hb0,nS]at h2;split at h
    ·split at h
     ·rename_i h4 h5;cases h;have h6:cnt [57] r1=r1.length:=by omega
      refine .inr (.inl ⟨a,0,cnt [57] r1,by omega,by omega,?_,rfl,by rw[if_neg (by omega)];rfl⟩);rw[zer.1 h6]at s1;rw[h6];exact s1
     ·cases h
    ·rename_i h4;have ha0:a=0:=by omega
     subst ha0;rw[nS]at hr1;subst hr1;have s3:=Ju 57 r;have hc:=YY [57] r;simp only[]at h;have s4:=Ju 80 (r.drop (cnt [57] r));have hk:=YY [80] (r.drop (cnt [57] r));rw[mJ]at hk;rw[nA]at s4;generalize cnt [57] r=c at*
     generalize cnt [80] (r.drop c)=k at*
     split at h
     ·rename_i h5;split at h
      ·rename_i h6;cases h;rcases h6 with h6|h6
       ·refine .inr (.inr ⟨d,k,0,by omega,by omega,by omega,?_,rfl,rfl⟩);rw[nW (show r.length<=d+k by omega),mV]at s4;rw[s4]at s3;simpa using s3
       ·refine .inr (.inr ⟨d,k,1,by omega,by omega,by omega,?_,rfl,rfl⟩);rw[h6]at s4;rw[s4]at s3;exact s3
      ·cases h
     ·split at h
      ·rename_i h5 h6;cases h;refine .inr (.inl ⟨0,0,d,by omega,by omega,?_,rfl,by simp⟩);rw[nW (show r.length<=d by omega),mV]at s3;exact s3
      ·split at h
       ·split at h
        ·rename_i h5 h6 h7 h8;cases h;have hlt:c<r.length:=by omega
         refine .inl ⟨c,cnt [57] (r.drop (c+1)),by omega,?_,rfl,rfl⟩;have h9:cnt [57] (r.drop (c+1))=(r.drop (c+1)).length:=by rw[mJ];omega
         rw[zM hlt,h7,zer.1 h9]at s3;rw[h9];exact s3
        ·cases h
       ·cases h
end Go.Proofs.C06
end
section
set_option maxRecDepth 100000
namespace Go.Proofs.C06
open Go Go.RowKit Go.Vc Go.Am
def zco(r:uBp):Option (Nat×Int):=if r.count 57=0\/1<r.count 86 then none else if r.count 80=0 then if cnt [57] (Lib.cut r [86]).1=(Lib.cut r [86]).1.length/\cnt [57] (Lib.cut r [86]).2.1=(Lib.cut r [86]).2.1.length then some (r.count 57,(((Lib.cut r [86]).2.1.length:Nat):Int))else none else if cnt [57] (Lib.trimLeftS r [86,80])=(Lib.trimLeftS r [86,80]).length/\((Lib.cut r [86]).2.2=false\/r.getD 0 0=86)then some (r.count 57,((r.count 57+r.count 80:Nat):Int))else if cnt [57] (Lib.trimRightS (Lib.trimSuffix r [86]) [80])=(Lib.trimRightS (Lib.trimSuffix r [86]) [80]).length then some (r.count 57,-((r.count 80:Nat):Int))else none
theorem Z5{N:Nat}{s:uBp}(hs:s.length<=400)(hN:1000<N):JN N s=some (decide (cnt [57] s=s.length)):=by unfold JN;have:=YB (N:=N) (s:=s) (set:=[57]) (f:=0) (by omega) (by omega) (by omega);rw[show of_ N [57]=some [57]from rfl,zc];rw[show jd N s 0 [57]=some ((cnt [57] s:Nat):Int)from this,zc];congr 1;rw[uAi];simp only[decide_eq_true_eq];omega
theorem znY(t:uBp)(c:UInt8)(hc:c≠0):Lib.hasPrefix t [c]=decide (t.getD 0 0=c):=by
 unfold Lib.hasPrefix;cases t with
 |nil=>simp[hc.symm]
 |cons x t=>simp only[List.isPrefixOf,uAg,List.getD_cons_zero];rw[uAi];simp only[beq_iff_eq,decide_eq_true_eq];exact eq_comm
theorem zww(r:uBp)(c:UInt8)(j:Nat):Lib.occAt r [c] j=true↔r[j]? =some c:=by
 unfold Lib.occAt;rcases h:r.drop j with _|⟨x,t⟩
 ·have:r[j]? =none:=by have:=congrArg List.length h;simp at this;exact uAo (by omega)
  simp[this,List.isPrefixOf]
 ·have:r[j]? =some x:=by
   have h2:(r.drop j)[0]? =some x:=by rw[h];rfl
   rw[nE]at h2;simpa using h2
  rw[this];simp[List.isPrefixOf];exact eq_comm
theorem cut1(r:uBp)(c:UInt8):(Lib.cut r [c]=(r,[],false)/\r.count c=0)\/
  ∃i,i<r.length/\r.getD i 0=c/\Lib.cut r [c]=(r.take i,r.drop (i+1),true)/\(r.take i).count c=0:=by
 unfold Lib.cut;rcases Lib.index_spec r [c]with⟨h1,h2⟩|⟨i,h1,h2,h3,h4⟩
 ·left;rw[h1,if_neg (by omega)];refine⟨rfl,uA8.2 fun hm=>?_⟩;obtain⟨j,hj,he⟩:=List.mem_iff_getElem.1 hm;have:=h2 j (by omega);rw[<-Bool.not_eq_true,zww]at this;exact this (by rw[mC hj,he])
 ·right;have h5:=(zww r c i).1 h3;have hlt:i<r.length:=by
   rcases uAS i r.length with h|h
   ·exact h
   ·rw[uAo h]at h5;cases h5
  refine⟨i,hlt,by rw[mE,h5];rfl,by rw[h1,if_pos (by omega)];rfl,uA8.2 fun hm=>?_⟩;obtain⟨j,hj,he⟩:=List.mem_iff_getElem.1 hm;rw[mH]at hj;have:=h4 j (by omega);rw[<-Bool.not_eq_true,zww]at this;rw[List.getElem_take]at he;exact this (by rw[mC (by omega),he])
theorem WC{N:Nat}(hN:1000<N){r:uBp}(hr:r.length<=400)(b0:Shape)(p:uBp)(sg:Bool)(t:Bool)(ht:t=decide (r.count 57=0\/1<r.count 86)):
  ∃sh,JM N r (Lib.cut r [86]).1 (Lib.cut r [86]).2.1 (Lib.cut r [86]).2.2 ((r.count 80:Nat):Int) (Lib.trimLeftS r [86,80]) t b0 (Shape.mk 4 0 p ((r.count 57:Nat):Int) 0 sg false false false false ((r.count 57:Nat):Int))=some (sh,(zco r).isSome)/\∀d sc,zco r=some (d,sc)->sh=j2 p sg d sc:=by
 have c57:=uAs (a:=(57:UInt8)) (l:=r);have c80:=uAs (a:=(80:UInt8)) (l:=r);have lw:(Lib.cut r [86]).1.length<=400/\(Lib.cut r [86]).2.1.length<=400:=by
  rcases cut1 r 86 with⟨h,_⟩|⟨i,_,_,h,_⟩
  ·rw[h];exact⟨hr,by simp⟩
  ·rw[h];simp only[mH,mJ];omega
 have lt:(Lib.trimLeftS r [86,80]).length<=400:=by unfold Lib.trimLeftS;exact nD (List.Sublist.length_le (uBe _)) hr
 have lts:(Lib.trimSuffix r [86]).length<=400:=by
  unfold Lib.trimSuffix;split
  ·rw[mH];omega
  ·exact hr
 have ltr:(Lib.trimRightS (Lib.trimSuffix r [86]) [80]).length<=400:=by unfold Lib.trimRightS;rw[List.length_reverse];refine nD (List.Sublist.length_le (uBe _)) ?_;rw[List.length_reverse];exact lts
 subst ht;unfold JM zco;rw[zb];by_cases h1:r.count 57=0\/1<r.count 86
 ·rw[if_pos h1,if_pos h1];exact⟨_,rfl,fun _ _ h=>by cases h⟩
 ·rw[if_neg h1,if_neg h1,zb];by_cases h2:r.count 80=0
  ·rw[if_pos (by omega),if_pos h2,Z5 lw.1 hN,zc,zb];by_cases h3:cnt [57] (Lib.cut r [86]).1=(Lib.cut r [86]).1.length
   ·rw[if_pos h3,Z5 lw.2 hN,zc];by_cases h4:cnt [57] (Lib.cut r [86]).2.1=(Lib.cut r [86]).2.1.length
    ·rw[if_pos ⟨h3,h4⟩,decide_eq_true h4];exact⟨_,rfl,fun _ _ h=>by cases h;rfl⟩
    ·rw[if_neg (fun h=>h4 h.2),decide_eq_false h4];exact⟨_,rfl,fun _ _ h=>by cases h⟩
   ·rw[if_neg h3,if_neg (fun h=>h3 h.1)];exact⟨_,rfl,fun _ _ h=>by cases h⟩
  ·rw[if_neg (by omega),if_neg h2,Z5 lt hN,zc,zb];have hF:∃sh,yx N r ((r.count 80:Nat):Int) false b0 (Shape.mk 4 0 p ((r.count 57:Nat):Int) 0 sg false false false false ((r.count 57:Nat):Int))=
     some (sh,(if cnt [57] (Lib.trimRightS (Lib.trimSuffix r [86]) [80])=(Lib.trimRightS (Lib.trimSuffix r [86]) [80]).length then some (r.count 57,-((r.count 80:Nat):Int))else none).isSome)/\
     ∀d sc,(if cnt [57] (Lib.trimRightS (Lib.trimSuffix r [86]) [80])=(Lib.trimRightS (Lib.trimSuffix r [86]) [80]).length then some (r.count 57,-((r.count 80:Nat):Int))else none)=some (d,sc)->sh=j2 p sg d sc:=by
    unfold yx KJ zal;rw[cond_false,zh (by omega) (by omega),za,decide_eq_true (by omega),za,zc,decide_eq_true (by omega)];rw[show(true&&(decide (([80]:uBp).length<4294967281)&&Vr [80]))=true from rfl,za,zc,Z5 ltr hN,zc];by_cases h4:cnt [57] (Lib.trimRightS (Lib.trimSuffix r [86]) [80])=(Lib.trimRightS (Lib.trimSuffix r [86]) [80]).length
    ·rw[if_pos h4,decide_eq_true h4];exact⟨_,rfl,fun _ _ h=>by cases h;rfl⟩
    ·rw[if_neg h4,decide_eq_false h4];exact⟨_,rfl,fun _ _ h=>by cases h⟩
   have hT:∃sh,yx N r ((r.count 80:Nat):Int) true b0 (Shape.mk 4 0 p ((r.count 57:Nat):Int) 0 sg false false false false ((r.count 57:Nat):Int))=
     some (sh,true)/\sh=j2 p sg (r.count 57) ((r.count 57+r.count 80:Nat):Int):=by
    unfold yx;rw[cond_true,show(((r.count 57:Nat):Int)+((r.count 80:Nat):Int))=((r.count 57+r.count 80:Nat):Int)by omega,zh (by omega) (by omega),za];exact⟨_,rfl,rfl⟩
   by_cases h3:cnt [57] (Lib.trimLeftS r [86,80])=(Lib.trimLeftS r [86,80]).length
   ·rw[if_pos h3];cases hpt:(Lib.cut r [86]).2.2 with
    |false=>rw[if_pos ⟨h3,.inl rfl⟩];obtain⟨sh,e1,e2⟩:=hT;exact⟨sh,e1,fun _ _ h=>by cases h;exact e2⟩
    |true=>
     have hl:0<r.length:=by
      rcases uAI r.length with h|h
      ·have:r.count 80<=0:=by omega
       omega
      ·exact h
     have hx:=jm hl;have hb:=zJ r 0;rw[show((0:Nat):Int)=0 from rfl]at hx hb;simp only[uAb,cond_false,hx,za,hb];by_cases h5:r.getD 0 0=86
     ·rw[if_pos ⟨h3,.inr h5⟩,decide_eq_true (by rw[h5];rfl)];obtain⟨sh,e1,e2⟩:=hT;exact⟨sh,e1,fun _ _ h=>by cases h;exact e2⟩
     ·rw[if_neg (by rintro⟨_,h|h⟩;cases h;exact h5 h),decide_eq_false (show¬(((r.getD 0 0).toNat:Int)=86)from fun e=>h5 (YF.1 e))];exact hF
   ·rw[if_neg h3,if_neg (fun h=>h3 h.1)];exact hF
theorem zlo{N:Nat}(hN:1000<N){p:uBp}(hp:p.length<=400):
  ∃sh,zeg N p=some (sh,(zco (unS p)).isSome)/\∀d sc,zco (unS p)=some (d,sc)->sh=j2 p (sgS p) d sc:=by
 have hu:Lib.trimPrefix p [83]=unS p/\Lib.hasPrefix p [83]=sgS p:=by unfold Lib.trimPrefix unS sgS;rw[znY p 83 (by decide)];simp
 have hr:(unS p).length<=400:=by
  unfold unS;split
  ·rw[mJ];omega
  ·exact hp
 unfold zeg zan zwB Jo;rw[zc,hu.1,hu.2];generalize unS p=r at*
 rw[decide_eq_true (show r.length<4294967281 by omega),za,zc];show∃sh,(bnd (some ((r.count 80:Nat):Int)) fun rr2=>bnd (some ((r.count 57:Nat):Int)) fun rr3=>_)=_/\_;rw[zc,zc];rw[show(decide (([86,80]:uBp).length<4294967281)&&Vr [86,80])=true from rfl,za,zc,zb];by_cases h:r.count 57=0
 ·rw[if_pos (by omega)];exact WC hN hr _ p (sgS p) true (by rw[decide_eq_true (.inl h)])
 ·rw[if_neg (by omega)];show∃sh,(bnd (some ((r.count 86:Nat):Int)) fun rr11=>_)=_/\_;rw[zc];refine WC hN hr _ p (sgS p) _ ?_;rw[uAi];simp only[decide_eq_true_eq];omega
end Go.Proofs.C06
end
section
set_option maxRecDepth 100000
namespace Go.Proofs.C06
open Go Go.RowKit Go.Vc Go.Am
theorem zr(c x:UInt8)(n:Nat):(rp n c).count x=if c=x then n else 0:=by rw[rp,List.count_replicate];by_cases h:c=x<;>simp[h]
theorem zmk{r:uBp}{c:UInt8}(h:r.count c=0):Lib.cut r [c]=(r,[],false):=by
 rcases cut1 r c with⟨h1,_⟩|⟨i,hi,hc,_,_⟩
 ·exact h1
 ·exfalso;have:c∈r:=by rw[<-hc,Wa hi];exact uBf hi
  exact absurd h (by have:=List.count_pos_iff.2 this;omega)
theorem ztD{s t:uBp}{c:UInt8}(h:s.count c=0):Lib.cut (s++c::t) [c]=(s,t,true):=by
 rcases cut1 (s++c::t) c with⟨_,h1⟩|⟨i,hi,hc,he,h0⟩
 ·rw[mY,List.count_cons_self]at h1;omega
 ·have hm:=uA8.1 h;have hm0:=uA8.1 h0;have h1:i=s.length:=by
   rcases Nat.lt_trichotomy i s.length with hlt|heq|hgt
   ·exfalso;apply hm;rw[Wa hi,List.getElem_append_left hlt]at hc;rw[<-hc];exact uBf hlt
   ·exact heq
   ·exfalso;apply hm0;have:(s++c::t).take i=s++(c::t).take (i-s.length):=by rw[List.take_append];rw[nF (by omega)]
    rw[this,mO];right;obtain⟨m,hm⟩:∃m,i-s.length=m+1:=⟨i-s.length-1,by omega⟩
    rw[hm,uAh];simp
  subst h1;rw[he];simp
theorem Jb{set:uBp}{c:UInt8}(h:set.contains c=true)(t:uBp):∀n,(rp n c++t).dropWhile (set.contains ·)=t.dropWhile (set.contains ·)
 |0=>rfl
 |n+1=>by rw[rp,nM,nU,List.dropWhile_cons,if_pos h];exact Jb h t n
theorem XC{set:uBp}{c:UInt8}(h:set.contains c=false)(t:uBp){n:Nat}(hn:1<=n):(rp n c++t).dropWhile (set.contains ·)=rp n c++t:=by
 obtain⟨m,rfl⟩:∃m,n=m+1:=⟨n-1,by omega⟩
 rw[rp,nM,nU,List.dropWhile_cons,if_neg (by rw[h];simp)]
theorem ziX(n:Nat)(c:UInt8):(rp n c).reverse=rp n c:=List.reverse_replicate ..
theorem zfI(s:uBp)(c x:UInt8):Lib.hasSuffix (s++[x]) [c]=decide (x=c):=by
 unfold Lib.hasSuffix;rw[uAi,decide_eq_true_eq,List.isSuffixOf_iff_suffix];constructor
 ·rintro⟨t,ht⟩;have:=congrArg List.getLast? ht;simpa using this.symm
 ·rintro rfl;exact⟨s,rfl⟩
theorem zkY(n:Nat)(c:UInt8):rp (n+1) c=rp n c++[c]:=List.replicate_succ'
theorem zhj(s:uBp)(c x:UInt8):(s++[x]).take ((s++[x]).length-[c].length)=s:=by
 have:(s++[x]).length-[c].length=s.length:=by simp
 rw[this,List.take_left]
theorem zq2{r:uBp}{d:Nat}{sc:Int}(h:zmM r d sc):zco r=some (d,sc):=by
 rcases h with⟨c,f,hc,rfl,rfl,rfl⟩|⟨a,b,c,ha,hc,rfl,hd,rfl⟩|⟨c,k,e,hc,hk,he,rfl,hd,rfl⟩
 ·have e1:(rp c 57++((86:UInt8)::rp f 57)).count 57=c+f:=by rw[mY,List.count_cons_of_ne (by decide),zr,zr];rfl
  have e2:(rp c 57++((86:UInt8)::rp f 57)).count 86=1:=by rw[mY,List.count_cons_self,zr,zr];rfl
  have e3:(rp c 57++((86:UInt8)::rp f 57)).count 80=0:=by rw[mY,List.count_cons_of_ne (by decide),zr,zr];rfl
  have e4:Lib.cut (rp c 57++((86:UInt8)::rp f 57)) [86]=(rp c 57,rp f 57,true):=ztD (by rw[zr];rfl);unfold zco;rw[e1,e2,e3,e4,if_neg (by omega),if_pos rfl,if_pos ⟨by rw[yF];simp,by rw[yF];simp⟩];simp
 ·obtain rfl:c=d:=hd.symm;have e1:(rp a 86++(rp b 80++rp c 57)).count 57=c:=by rw[mY,mY,zr,zr,zr];simp
  have e2:(rp a 86++(rp b 80++rp c 57)).count 86=a:=by rw[mY,mY,zr,zr,zr];simp
  have e3:(rp a 86++(rp b 80++rp c 57)).count 80=b:=by rw[mY,mY,zr,zr,zr];simp
  unfold zco;rw[e1,e2,e3,if_neg (by omega)];by_cases hb:b=0
  ·subst hb;rw[if_pos rfl];by_cases h0:a=0
   ·subst h0;rw[show(rp 0 86++(rp 0 80++rp c 57))=rp c 57 from rfl,zmk (by rw[zr];rfl),if_pos ⟨by rw[yF];simp,rfl⟩,if_pos (by simp)];rfl
   ·have:a=1:=by omega
    subst this;rw[show(rp 1 86++(rp 0 80++rp c 57))=[]++86::rp c 57 from rfl,ztD rfl,if_pos ⟨rfl,by rw[yF];simp⟩,if_neg (by omega)];simp
  ·rw[if_neg hb];have e5:Lib.trimLeftS (rp a 86++(rp b 80++rp c 57)) [86,80]=rp c 57:=by unfold Lib.trimLeftS;rw[Jb rfl,Jb rfl];have:=XC (set:=[86,80]) (c:=57) rfl [] (n:=c) hc;rw[mV]at this;exact this
   rw[e5,if_pos,if_neg (by omega)];refine⟨by rw[yF];simp,?_⟩;by_cases h0:a=0
   ·left;subst h0;rw[zmk e2]
   ·right;have:a=1:=by omega
    subst this;rfl
 ·obtain rfl:c=d:=hd.symm;have e1:(rp c 57++(rp k 80++rp e 86)).count 57=c:=by rw[mY,mY,zr,zr,zr];simp
  have e2:(rp c 57++(rp k 80++rp e 86)).count 86=e:=by rw[mY,mY,zr,zr,zr];simp
  have e3:(rp c 57++(rp k 80++rp e 86)).count 80=k:=by rw[mY,mY,zr,zr,zr];simp
  have e5:Lib.trimLeftS (rp c 57++(rp k 80++rp e 86)) [86,80]=rp c 57++(rp k 80++rp e 86):=XC rfl _ hc;have e6:cnt [57] (rp c 57++(rp k 80++rp e 86))=c:=by rw[YD,yE (by decide) _ hk];rfl
  have e7:Lib.trimSuffix (rp c 57++(rp k 80++rp e 86)) [86]=rp c 57++rp k 80:=by
   unfold Lib.trimSuffix;by_cases h0:e=0
   ·subst h0;obtain⟨m,rfl⟩:∃m,k=m+1:=⟨k-1,by omega⟩
    rw[show rp (m+1) 80++rp 0 86=rp m 80++[80]by rw[zkY];simp,<-mK,zfI,if_neg (by simp),zkY,mK]
   ·have:e=1:=by omega
    subst this;rw[show rp 1 86=[86]from rfl,<-mK,zfI,if_pos (by simp)];exact zhj _ _ _
  have e8:Lib.trimRightS (rp c 57++rp k 80) [80]=rp c 57:=by unfold Lib.trimRightS;rw[List.reverse_append,ziX,ziX,Jb rfl];have:=XC (set:=[80]) (c:=57) rfl [] (n:=c) hc;rw[mV]at this;rw[this,ziX]
  unfold zco;rw[e1,e2,e3,if_neg (by omega),if_neg (by omega),e5,e6,if_neg (by simp;omega),e7,e8,if_pos (by rw[yF];simp)]
theorem zt4{c:UInt8}{l:uBp}(h:∀x∈l,x=c):l=rp l.length c:=List.eq_replicate_iff.2 ⟨rfl,h⟩
theorem zpU{l:uBp}{a b:UInt8}(h:∀x∈l,x=a\/x=b)(h0:l.count a=0):l=rp l.length b:=by
 refine zt4 fun x hx=>?_
 rcases h x hx with rfl|h
 ·exact absurd hx (uA8.1 h0)
 ·exact h
theorem WB{set:uBp}{l:uBp}:∀x∈l.takeWhile (set.contains ·),set.contains x=true:=by
 induction l with
 |nil=>intro x hx;cases hx
 |cons y l ih=>
  intro x hx;rw[List.takeWhile_cons]at hx;split at hx
  ·rename_i hy;rcases mU.1 hx with rfl|hx
   ·exact hy
   ·exact ih x hx
  ·cases hx
theorem zqF{r:uBp}{d:Nat}{sc:Int}(h:zco r=some (d,sc)):∃d sc,zmM r d sc:=by
 unfold zco at h;split at h
 ·cases h
 ·rename_i h1;split at h
  ·rename_i h2;split at h
   ·rename_i h3;obtain⟨h3,h4⟩:=h3;rcases cut1 r 86 with⟨hc,h5⟩|⟨i,hi,hg,hc,h5⟩
    ·rw[hc]at h3;obtain⟨n,hn⟩:=Vk h3;replace hn:r=rp n 57:=hn;refine⟨n,0,.inr (.inl ⟨0,0,n,by omega,?_,hn,rfl,by simp⟩)⟩;have:r.count 57=n:=by rw[hn,zr];rfl
     omega
    ·rw[hc]at h3 h4;obtain⟨n,hn⟩:=Vk h3;obtain⟨f,hf⟩:=Vk h4;replace hn:r.take i=rp n 57:=hn;replace hf:r.drop (i+1)=rp f 57:=hf;have hr:r=rp n 57++(86::rp f 57):=by rw[<-hn,<-hf,<-hg,<-zM hi,mT]
     by_cases h0:n=0
     ·subst h0;refine⟨f,f,.inr (.inl ⟨1,0,f,by omega,?_,hr,rfl,by simp⟩)⟩;have:r.count 57=f:=by rw[hr,mY,List.count_cons_of_ne (by decide),zr,zr];simp
      omega
     ·exact⟨n+f,f,.inl ⟨n,f,by omega,hr,rfl,rfl⟩⟩
   ·cases h
  ·rename_i h2;have hsplit:r=r.takeWhile (([86,80]:uBp).contains ·)++Lib.trimLeftS r [86,80]:=(List.takeWhile_append_dropWhile).symm;have hmem:∀x∈r.takeWhile (([86,80]:uBp).contains ·),x=86\/x=80:=fun x hx=>by have:=WB x hx;simpa using this
   split at h
   ·rename_i h3;obtain⟨h3,h4⟩:=h3;obtain⟨c,hc⟩:=Vk h3;rw[hc]at hsplit;have h57:(r.takeWhile (([86,80]:uBp).contains ·)).count 57=0:=uA8.2 fun hm=>by rcases hmem _ hm with h|h<;>cases h
    have hc1:r.count 57=c:=by have:=congrArg (List.count 57) hsplit;rw[mY,h57,zr]at this;simpa using this
    by_cases h86:(r.takeWhile (([86,80]:uBp).contains ·)).count 86=0
    ·have:=zpU hmem h86;rw[this]at hsplit;exact⟨c,_,.inr (.inl ⟨0,_,c,by omega,by omega,hsplit,rfl,rfl⟩)⟩
    ·have hr86:r.count 86=(r.takeWhile (([86,80]:uBp).contains ·)).count 86:=by have:=congrArg (List.count 86) hsplit;rw[mY,zr]at this;simpa using this
     rcases h4 with h4|h4
     ·exfalso;rcases cut1 r 86 with⟨hcc,h5⟩|⟨i,hi,hg,hcc,h5⟩
      ·omega
      ·rw[hcc]at h4;cases h4
     ·cases hT:r.takeWhile (([86,80]:uBp).contains ·)with
      |nil=>rw[hT]at h86;exact absurd rfl h86
      |cons y T=>
       rw[hT]at hsplit hmem hr86;have hy:y=86:=by rw[hsplit]at h4;simpa using h4
       subst hy;rw[List.count_cons_self]at hr86;have:=zpU (fun x hx=>hmem x (by simp[hx])) (show T.count 86=0 by omega);rw[this]at hsplit;exact⟨c,_,.inr (.inl ⟨1,_,c,by omega,by omega,hsplit,rfl,rfl⟩)⟩
   ·split at h
    ·rename_i h3 h4;obtain⟨c,hc⟩:=Vk h4;have hs:∃k,Lib.trimSuffix r [86]=rp c 57++rp k 80:=by have:=(List.takeWhile_append_dropWhile (p:=(([80]:uBp).contains ·)) (l:=(Lib.trimSuffix r [86]).reverse)).symm;have h5:=zt4 (c:=80) (l:=(Lib.trimSuffix r [86]).reverse.takeWhile (([80]:uBp).contains ·)) (fun x hx=>by have:=WB x hx;simpa using this);rw[h5]at this;have h6:=congrArg List.reverse this;rw[List.reverse_reverse,List.reverse_append,ziX]at h6;unfold Lib.trimRightS at hc;rw[hc]at h6;exact⟨_,h6⟩
     obtain⟨k,hk⟩:=hs;have hr:∃e,e<=1/\r=rp c 57++(rp k 80++rp e 86):=by
      unfold Lib.trimSuffix at hk;split at hk
      ·rename_i h5;unfold Lib.hasSuffix at h5;obtain⟨t,ht⟩:=List.isSuffixOf_iff_suffix.1 h5;refine⟨1,by omega,?_⟩;rw[<-ht]at hk⊢;rw[zhj]at hk;rw[hk,mK];rfl
      ·exact⟨0,by omega,by rw[hk];simp⟩
     obtain⟨e,he,hr⟩:=hr;have e1:r.count 57=c:=by rw[hr,mY,mY,zr,zr,zr];simp
     have e3:r.count 80=k:=by rw[hr,mY,mY,zr,zr,zr];simp
     exact⟨c,_,.inr (.inr ⟨c,k,e,by omega,by omega,he,hr,rfl,rfl⟩)⟩
    ·cases h
theorem zqE(r:uBp):zco r=zbh r:=by
 cases h:zbh r with
 |some x=>exact zq2 (numS_form h)
 |none=>
  cases h2:zco r with
  |none=>rfl
  |some y=>obtain⟨d,sc,hf⟩:=zqF h2;rw[zq1 hf]at h;cases h
end Go.Proofs.C06
end
section
set_option maxRecDepth 100000
namespace Go.Proofs.C06
open Go Go.RowKit Go.Vc Go.Am
def j4(c:UInt8):Bool:=([66,48,47,44]:uBp).contains c
def noIns(s:uBp):uBp:=s.filter (fun c=>!j4 c)
theorem JO(c:UInt8)(s:uBp):noIns (c::s)=if j4 c then noIns s else c::noIns s:=by unfold noIns;rw[List.filter_cons];cases j4 c<;>rfl
theorem zw1(s:uBp)(i:Nat):(bs s).get! i=s.getD i 0:=by show s.toArray[i]! =_;rw[List.getElem!_toArray,List.getElem!_eq_getElem?_getD,mE];rfl
theorem WR(s:uBp)(i:Nat)(h:(s.getD i 0).toNat<128):Utf8.decode (bs s) i=((s.getD i 0).toNat,1):=by unfold Utf8.decode;simp only[uAf,zw1];rw[if_pos h]
theorem Z4{s:uBp}{i:Nat}(h:(s.getD i 0).toNat<128):qm s i=((s.getD i 0).toNat:Int):=by unfold qm;rw[WR s i h]
theorem Zs{s:uBp}{i:Nat}(h:(s.getD i 0).toNat<128):widthAt s i=1:=by unfold widthAt;rw[WR s i h]
theorem zdq(N:Nat){c:UInt8}(h:c.toNat<128):zbJ N (c.toNat:Int)=some (if j4 c then-1 else(c.toNat:Int)):=by unfold zbJ YS;rw[decide_eq_true (by omega),decide_eq_true (by omega)];simp only[uAA,za,zc,W7,jF];unfold j4;cases([66,48,47,44]:uBp).contains c<;>rfl
theorem V9{s:uBp}{i:Nat}(h:i<s.length):s.getD i 0∈s:=by rw[Wa h];exact uBf h
theorem zm5(c:UInt8):[(c.toNat:Int)].map toByte=[c]:=by
 show[toByte (c.toNat:Int)]=[c]
 unfold toByte;simp
theorem ZW{N:Nat}(s:uBp)(hs:s.length<=400)(ha:∀c∈s,c.toNat<128):∀(n i:Nat)(out:uBp),i<=s.length->s.length-i<n->out.length<=400+i->
  qR N n s i out=some (out++noIns (s.drop i))
 |0,i,out,_,h,_=>by omega
 |n+1,i,out,hi,h,ho=>by
  show JQ N (qR N n) s i out=_;unfold JQ;by_cases hlt:i<s.length
  ·have hc:=ha _ (V9 hlt);rw[show Nat.blt i s.length=true from mX hlt,cond_true,Z4 hc,zdq N hc,zc,Zs hc,zM hlt,JO,zb];cases hd:j4 (s.getD i 0)with
   |true=>rw[if_pos rfl,if_neg (by omega),if_pos rfl];exact ZW s hs ha n (i+1) out (by omega) (by omega) (by omega)
   |false=>simp only[nC,if_false];rw[if_pos (by omega),zb,if_pos (by omega),zeB (by omega) (by omega)];unfold Vn;rw[show zd .u8 ((s.getD i 0).toNat:Int)=true from yA.2 ⟨by show(0:Int)<=_;omega,by show _<=(255:Int);omega⟩];rw[uAg,za,zm5,jP (by simp;omega),za,zc,ZW s hs ha n (i+1) _ (by omega) (by omega) (by simp;omega),mK];rfl
  ·rw[show Nat.blt i s.length=false from Bool.eq_false_iff.2 (fun e=>hlt (mS e)),cond_false,nW (by omega)];unfold KI;rw[decide_eq_true (by omega),za,zc];simp[noIns]
theorem XW{N:Nat}(hN:1000<N)(s:uBp)(hs:s.length<=400)(ha:∀c∈s,c.toNat<128):∀(n i:Nat),i<=s.length->s.length-i<n->
  yK N n s s i=some (s.take i++noIns (s.drop i))
 |0,i,_,h=>by omega
 |n+1,i,hi,h=>by
  show JR N (yK N n) s s i=_;unfold JR;by_cases hlt:i<s.length
  ·have hc:=ha _ (V9 hlt);rw[show Nat.blt i s.length=true from mX hlt,cond_true,Z4 hc,zdq N hc,zc,Zs hc,zM hlt,JO,zb];cases hd:j4 (s.getD i 0)with
   |true=>
    rw[if_pos rfl,if_neg (by omega),if_pos rfl];unfold Z6;rw[zb,if_neg (by omega)];have hrl:JT ((s.getD i 0).toNat:Int)=some 1:=by unfold JT Lib.runeLen;rw[if_neg (by omega),if_pos (by omega)]
    rw[hrl,zc,zh (by omega) (by omega),za];have hg:zaH N ((s.length:Int)+4)=some []:=by
     unfold zaH;rw[decide_eq_false (by omega),cond_false,decide_eq_true (by omega),cond_true];have:Q3 ((s.length:Int)+4)=true:=by rw[show((s.length:Int)+4)=Int.ofNat (s.length+4)from rfl];unfold Q3;simp only[mX (show 1<=s.length+4 by omega),mX (show s.length+4<=281474976710656 by omega)];rfl
     rw[this,za,zc]
    rw[hg,zc,zw.2 ⟨by omega,by omega,by omega⟩,za];unfold Jg;have ht:js s (i:Int)=s.take i:=rfl;rw[ht,nX,jP (by rw[mH];omega),za,zc,decide_eq_false (by omega),cond_false];rw[show((i:Int)+1)=((i+1:Nat):Int)by omega,zh (by omega) (by omega),za,zw.2 ⟨by omega,by omega,by omega⟩,za];unfold zgs;rw[zc,zcK];have:=ZW (N:=N) (s.drop (i+1)) (by rw[mJ];omega) (fun c hc=>ha c (uBl hc)) N 0 (s.take i) (by omega) (by rw[mJ];omega) (by rw[mH];omega);rw[this,nS]
   |false=>simp only[nC,if_false];rw[if_true,decide_eq_false (by omega),uA4,cond_true,XW hN s hs ha n (i+1) (by omega) (by omega)];rw[uBn,mK];congr 2;rw[mC hlt,<-Wa hlt];rfl
  ·rw[show Nat.blt i s.length=false from Bool.eq_false_iff.2 (fun e=>hlt (mS e)),cond_false,nW (by omega),nF (by omega)];simp[noIns]
theorem zgT{N:Nat}(hN:1000<N){s:uBp}(hs:s.length<=400)(ha:∀c∈s,c.toNat<128):VT N s=some (noIns s):=by unfold VT;have:=XW hN s hs ha N 0 (by omega) (by omega);simpa using this
end Go.Proofs.C06
end
