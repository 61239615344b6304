/-
  A part of the proof of the laws.
-/
import Derived.Test.YthajckhlgoonbaaGreatDoorAm1
import Derived.Test.YthajckhlgoonbaaGreatDoorS2
section
namespace Go.Proofs.C06
open Go Go.RowKit Go.Vc Go.Am
theorem zk{n:Int}(h1: -9223372036854775808<=n)(h2:n<=9223372036854775807):ze .i64 n=true:=
 yh.2 ⟨h1,h2⟩
theorem zb{α:Type}{p:Prop}[Decidable p]{a b:α}:cond (decide p) a b=if p then a else b:=by by_cases h:p<;>simp[h]
theorem zh{α:Type}{p:Prop}[Decidable p]{a b:α}:cond (!decide p) a b=if p then b else a:=by by_cases h:p<;>simp[h]
end Go.Proofs.C06
end
section
set_option maxRecDepth 100000
namespace Go.Proofs.C06
open Go Go.RowKit Go.Vc Go.Am
theorem jo{i n:Nat}(h:i<n):zn (i:Int) n=true:=zq.2 ⟨by omega,by omega⟩
theorem zI(s:uBH)(i:Nat):byteAt s (i:Int)=((s.getD i 0).toNat:Int):=rfl
theorem VY{s:uBH}{i:Nat}(h:i<s.length):s.getD i 0=s[i]:=by rw[mZ,mW h];rfl
theorem zN{s:uBH}{i:Nat}(h:i<s.length):s.drop i=s.getD i 0::s.drop (i+1):=by rw[uAG h,VY h]
theorem WR(c:UInt8):((c.toNat:Int).toNat.toUInt8)=c:=by simp
theorem YD{a b:UInt8}:((a.toNat:Int)=(b.toNat:Int))↔a=b:=by rw[Int.ofNat_inj,UInt8.toNat_inj]
def cnt(set s:uBH):Nat:=(s.takeWhile (set.contains ·)).length
theorem zpw(set:uBH):cnt set []=0:=rfl
theorem jZ(set:uBH)(c:UInt8)(s:uBH):cnt set (c::s)=if set.contains c then cnt set s+1 else 0:=by unfold cnt;rw[List.takeWhile_cons];split<;>simp_all
theorem YY(set s:uBH):cnt set s<=s.length:=by unfold cnt;exact List.Sublist.length_le (List.takeWhile_sublist _)
theorem jE(c:UInt8):∀l:uBH,(0<=Lib.indexByte l c)↔l.contains c=true
 |[]=>by simp[Lib.indexByte]
 |b::l=>by
  have ih:=jE c l;have hg:=Lib.indexByte_ge l c;unfold Lib.indexByte;by_cases hb:b=c
  ·subst hb;simp
  ·have hb':¬(c=b):=fun e=>hb e.symm
   by_cases hm:Lib.indexByte l c= -1
   ·have:¬(0<=Lib.indexByte l c):=by omega
    rw[ih]at this;simp only[uAt];simp[hb,hb',hm];simpa using this
   ·have h0:0<=Lib.indexByte l c:=by omega
    have h1:=ih.1 h0;simp only[uAt];simp[hb,hb',hm];exact⟨fun _=>by simpa using h1,fun _=>by omega⟩
theorem za1(N:Nat)(c:UInt8)(set:uBH):ziU N (c.toNat:Int) set=some (set.contains c):=by unfold ziU yd;simp only[zc,WR];congr 1;rw[uAx];simp only[decide_eq_true_eq,jE]
theorem zby(N:Nat)(s set:uBH)(f:Nat)(hs:s.length<=4611686018427387904):∀(n k:Nat),f+k<=s.length->s.length-(f+k)<n->
  J9 N n s (f:Int) set (k:Int)=some ((k+cnt set (s.drop (f+k)):Nat):Int)
 |0,k,_,h=>by omega
 |n+1,k,hk,h=>by
  show XH N (J9 N n) s f set k=_;unfold XH;have e:((f:Int)+(k:Int))=((f+k:Nat):Int):=by omega
  rw[e,zk (by omega) (by omega),za,zb];by_cases hlt:f+k<s.length
  ·rw[if_pos (by omega),za,jo hlt,za,zI,za1,zc,zN hlt,jZ];cases hc:set.contains (s.getD (f+k) 0)
   ·simp
   ·simp only[cond_true,if_true];have e2:((k:Int)+1)=((k+1:Nat):Int):=by omega
    rw[e2,zk (by omega) (by omega),za,zby N s set f hs n (k+1) (by omega) (by omega)];congr 2;rw[show f+(k+1)=f+k+1 by omega];omega
  ·rw[if_neg (by omega),uAm (by omega)];rfl
theorem Yz{N:Nat}{s set:uBH}{f:Nat}(hs:s.length<=4611686018427387904)(hN:s.length<N)(hf:f<=s.length):zY N s (f:Int) set=some ((cnt set (s.drop f):Nat):Int):=by unfold zY;have:=zby N s set f hs N 0 (by omega) (by omega);simpa using this
end Go.Proofs.C06
end
section
set_option maxRecDepth 100000
namespace Go.Proofs.C06
open Go Go.RowKit Go.Vc Go.Am
def syms:uBH:=[65,88,57,83,86,80,90,42,43,45,46,44,36,66,48,47,67,82,68]
def digs:uBH:=[48,49,50,51,52,53,54,55,56,57]
def valP(a:Nat)(l:uBH):Nat:=l.foldl (fun a c=>a*10+(c.toNat-48)) a
theorem zf0(c:UInt8):digs.contains c=true↔48<=c.toNat/\c.toNat<=57:=by unfold digs;simp only[uAt,List.contains_nil,uBl,uAf,beq_iff_eq];rw[<-UInt8.toNat_inj,<-UInt8.toNat_inj,<-UInt8.toNat_inj,<-UInt8.toNat_inj,<-UInt8.toNat_inj,<-UInt8.toNat_inj,<-UInt8.toNat_inj,<-UInt8.toNat_inj,<-UInt8.toNat_inj,<-UInt8.toNat_inj];simp only[UInt8.reduceToNat];omega
theorem zc9:∀(l:uBH)(a:Nat),(∀c∈l,digs.contains c=true)->Lib.decFrom a l=some (valP a l)
 |[],a,_=>rfl
 |c::l,a,h=>by
  have h1:=(zf0 c).1 (h c (by simp));have h2:=zc9 l (a*10+(c.toNat-48)) (fun x hx=>h x (by simp[hx]));unfold Lib.decFrom;have:Lib.digitVal c=some (c.toNat-48):=by unfold Lib.digitVal;rw[if_pos h1]
  rw[this];exact h2
theorem ztD{l:uBH}(h:∀c∈l,digs.contains c=true)(hne:l≠[]):Lib.atoi l=some ((valP 0 l:Nat):Int):=by
 cases l with
 |nil=>exact absurd rfl hne
 |cons b r=>
  have h1:=(zf0 b).1 (h b (by simp));have hb1:(b==45)=false:=by rw[beq_eq_false_iff_ne];intro e;subst e;simp at h1
  have hb2:(b==43)=false:=by rw[beq_eq_false_iff_ne];intro e;subst e;simp at h1
  unfold Lib.atoi;have:=zc9 (b::r) 0 h;simp only[hb1,hb2,nW,if_false,Lib.decNat,List.isEmpty_cons,this];rfl
theorem zin:∀(l:uBH)(a:Nat),(∀c∈l,digs.contains c=true)->valP a l<(a+1)*10^l.length
 |[],a,_=>by simp[valP]
 |c::l,a,h=>by have h1:=(zf0 c).1 (h c (by simp));have h2:=zin l (a*10+(c.toNat-48)) (fun x hx=>h x (by simp[hx]));show valP (a*10+(c.toNat-48)) l<_;refine uA1 h2 ?_;rw[nC,Nat.pow_succ',<-uAr];exact uAl _ (by omega)
theorem Q4(set:uBH)(s:uBH):∀k,k<=cnt set s->∀c∈s.take k,set.contains c=true:=by
 induction s with
 |nil=>intro k _ c hc;simp at hc
 |cons x s ih=>
  intro k hk c hc;rw[jZ]at hk;cases k with
  |zero=>simp at hc
  |succ k=>
   split at hk
   ·rename_i hx;simp only[uAH,nS]at hc;rcases hc with rfl|hc
    ·exact hx
    ·exact ih k (by omega) c hc
   ·omega
def rep(t:uBH):Option (Nat×Nat):=if t.getD 0 0=40 then if 1<=cnt digs (t.drop 1)/\cnt digs (t.drop 1)<=5/\t.getD (cnt digs (t.drop 1)+1) 0=41/\valP 0 ((t.drop 1).take (cnt digs (t.drop 1)))≠0 then some (valP 0 ((t.drop 1).take (cnt digs (t.drop 1))),cnt digs (t.drop 1)+2)else none else some (1,0)
theorem zrX{t:uBH}{m z:Nat}(h:rep t=some (m,z)):m<=99999/\1<=m/\z<=t.length/\z<=7:=by
 unfold rep at h;split at h
 ·split at h
  ·rename_i h1 h2;cases h;obtain⟨a,b,c,d⟩:=h2;have hv:=zin ((t.drop 1).take (cnt digs (t.drop 1))) 0 (Q4 digs _ _ (nB _));have hl:((t.drop 1).take (cnt digs (t.drop 1))).length<=5:=by rw[nA];omega
   have hp:10^((t.drop 1).take (cnt digs (t.drop 1))).length<=10^5:=uAp (by omega) hl;have hlt:cnt digs (t.drop 1)+1<t.length:=by
    rcases uA9 (cnt digs (t.drop 1)+1) t.length with h|h
    ·exact h
    ·rw[mZ,uAD h]at c;cases c
   refine⟨?_,by omega,by omega,by omega⟩;have:(10:Nat)^5=100000:=rfl;omega
  ·cases h
 ·cases h;omega
theorem zlD(t:uBH):Lib.hasPrefix t [40]=decide (t.getD 0 0=40):=by
 unfold Lib.hasPrefix;cases t with
 |nil=>rfl
 |cons c t=>simp only[List.isPrefixOf,uAL,List.getD_cons_zero];rw[uAx];simp only[beq_iff_eq,decide_eq_true_eq];exact eq_comm
theorem zoX(l:uBH)(a b:Nat):Vc.sub l (a:Int) (b:Int)=(l.take b).drop a:=by simp[Vc.sub]
theorem zni{N:Nat}{t:uBH}(ht:t.length<=1000)(hN:1000<N):∃a b,zaT N t=some (a,b,(rep t).isSome)/\∀m z,rep t=some (m,z)->a=(m:Int)/\b=(z:Int):=by
 unfold zaT zab;rw[zc,zlD,zh];by_cases h0:t.getD 0 0=40
 ·rw[if_pos h0];have hlen:1<=t.length:=by
   cases t with
   |nil=>cases h0
   |cons _ _=>simp
  have hc:=Yz (N:=N) (s:=t) (set:=digs) (f:=1) (by omega) (by omega) hlen;have hc':zY N t 1 [48,49,50,51,52,53,54,55,56,57]=some ((cnt digs (t.drop 1):Nat):Int):=hc;rw[show of_ N [48,49,50,51,52,53,54,55,56,57]=some [48,49,50,51,52,53,54,55,56,57]from rfl,zc,hc',zc];have hle:=YY digs (t.drop 1);rw[nD]at hle;unfold rep;rw[if_pos h0];generalize hd:cnt digs (t.drop 1)=d at hle;rw[zb];by_cases h1:d<1
  ·rw[if_pos (by omega),if_neg (by omega)];exact⟨_,_,rfl,fun _ _ h=>by cases h⟩
  ·rw[if_neg (by omega),zb];by_cases h2:5<d
   ·rw[if_pos (by omega),if_neg (by omega)];exact⟨_,_,rfl,fun _ _ h=>by cases h⟩
   ·have e1:((d:Int)+1)=((d+1:Nat):Int):=by omega
    have e2:((d:Int)+2)=((d+2:Nat):Int):=by omega
    rw[if_neg (by omega),e1,zk (by omega) (by omega),za,zb];by_cases h3:t.length<=d+1
    ·have:t.getD (d+1) 0=0:=by rw[mZ,uAD h3];rfl
     rw[if_pos (by omega),if_neg (by rw[this];intro⟨_,_,h,_⟩;cases h)];exact⟨_,_,rfl,fun _ _ h=>by cases h⟩
    ·rw[if_neg (by omega),za,jo (by omega),za,zh,zI];by_cases h4:t.getD (d+1) 0=41
     ·have hs:Vc.sub t 1 ((d+1:Nat):Int)=(t.drop 1).take d:=by rw[show((1:Int))=((1:Nat):Int)from rfl,zoX,List.take_drop];congr 1;rw[uAO]
      have hmem:∀c∈(t.drop 1).take d,digs.contains c=true:=Q4 digs _ _ (by omega);have hne:(t.drop 1).take d≠[]:=by intro e;have:=congrArg List.length e;rw[nA,nD]at this;simp at this;omega
      have hat:zpj ((t.drop 1).take d)=some ((valP 0 ((t.drop 1).take d):Nat):Int):=by unfold zpj;rw[decide_eq_true (by rw[nA];omega),za];exact ztD hmem hne
      have hv:=zin _ 0 hmem;rw[if_pos (by rw[h4];rfl),zx.2 ⟨by omega,by omega,by omega⟩,za,hs,hat,zc,e2,zk (by omega) (by omega),za];by_cases h5:valP 0 ((t.drop 1).take d)=0
      ·rw[if_neg (by rw[h5];intro⟨_,_,_,h⟩;exact h rfl),h5];exact⟨_,_,rfl,fun _ _ h=>by cases h⟩
      ·rw[if_pos ⟨by omega,by omega,h4,h5⟩];exact⟨_,_,by rw[decide_eq_true (by omega)];rfl,fun _ _ h=>by cases h;exact⟨rfl,rfl⟩⟩
     ·rw[if_neg (fun e=>h4 (UInt8.toNat_inj.1 (by
       have:(t.getD (d+1) 0).toNat=41:=by omega
       simpa using this))),if_neg (fun⟨_,_,h,_⟩=>h4 h)]
      exact⟨_,_,rfl,fun _ _ h=>by cases h⟩
 ·rw[if_neg h0];refine⟨1,0,?_,fun m z h=>?_⟩
  ·unfold rep;rw[if_neg h0];rfl
  ·unfold rep at h;rw[if_neg h0]at h;cases h;exact⟨rfl,rfl⟩
def items:uBH->Option (List (UInt8×Nat))
 |[]=>some []
 |c::r=>if syms.contains c=true then match rep r with
   |some (m,z)=>(items (r.drop z)).map ((c,m):: ·)
   |none=>none
  else none
termination_by s=>s.length
decreasing_by simp;omega
def tot:List (UInt8×Nat)->Nat
 |[]=>0
 |(_,m)::l=>m+tot l
def flat:List (UInt8×Nat)->uBH
 |[]=>[]
 |(c,m)::l=>List.replicate m c++flat l
def exR(all:Nat)(out:uBH):Option (List (UInt8×Nat))->uBH×Int
 |none=>([],4)
 |some l=>if all+tot l=0 then([],4)else if 256<all+tot l then([],3)else(out++flat l,0)
theorem zbp{all m:Nat}{c:UInt8}{out out':uBH}(x:Option (List (UInt8×Nat)))(hm:1<=m)(h:all+m<=256->out'=out++List.replicate m c):
  exR (all+m) out' x=exR all out (x.map ((c,m):: ·)):=by
 cases x with
 |none=>rfl
 |some l=>
  have e:tot ((c,m)::l)=m+tot l:=rfl;have ef:flat ((c,m)::l)=List.replicate m c++flat l:=rfl;show(if all+m+tot l=0 then([],4)else if 256<all+m+tot l then([],3)else(out'++flat l,0))=
   (if all+tot ((c,m)::l)=0 then(([]:uBH),(4:Int))else if 256<all+tot ((c,m)::l)then([],3)else(out++flat ((c,m)::l),0))
  by_cases hb:256<all+m+tot l
  ·rw[if_neg (show¬(all+m+tot l=0)by omega),if_neg (show¬(all+tot ((c,m)::l)=0)by omega),if_pos hb,if_pos (show 256<all+tot ((c,m)::l)by omega)]
  ·rw[if_neg (show¬(all+m+tot l=0)by omega),if_neg (show¬(all+tot ((c,m)::l)=0)by omega),if_neg hb,if_neg (show¬(256<all+tot ((c,m)::l))by omega),h (by omega),nI,ef]
theorem zgG(s:uBH)(i:Nat):toByte (byteAt s (i:Int))=s.getD i 0:=by unfold toByte;rw[zI];simp
theorem zcR(c:UInt8):∀m,Lib.repeatL [c] m=List.replicate m c
 |0=>rfl
 |m+1=>by rw[Lib.repeatL,zcR c m,uAa];rfl
theorem jT{n:Nat}(h:n<=1000000):zM 1 n=true:=by unfold zM;rw[mY];exact⟨nT (by omega),nT (by omega)⟩
theorem KO(c:UInt8){m:Nat}(hm:m<=100000):jA [c] (m:Int)=some (List.replicate m c):=by unfold jA;rw[decide_eq_true (by omega),decide_eq_true (by omega),decide_eq_true (by simp;omega)];simp only[uA4,za,nK,zcR]
theorem zif{N:Nat}{s:uBH}(h:s.length<=1000000):∃q,QW N s=some (q,s):=by unfold QW;rw[jT (by simpa using h),za];exact⟨_,rfl⟩
theorem zj9{N:Nat}{s l:uBH}(h:l.length+s.length<=1000000):∃q,Vy N s l=some (q,l++s):=by unfold Vy;rw[jT (by simpa using h),za];exact⟨_,rfl⟩
theorem zjG{s:uBH}{i:Nat}{c:UInt8}{r:uBH}(h:s.drop i=c::r):i<s.length/\s.getD i 0=c/\s.drop (i+1)=r:=by
 have hlt:i<s.length:=by
  rcases uA9 i s.length with h'|h'
  ·exact h'
  ·rw[uAm h']at h;cases h
 rw[zN hlt]at h;cases h;exact⟨hlt,rfl,rfl⟩
end Go.Proofs.C06
end
section
set_option maxRecDepth 100000
namespace Go.Proofs.C06
open Go Go.RowKit Go.Vc Go.Am
theorem zae(c:UInt8)(r:uBH):items (c::r)=if syms.contains c=true then match rep r with
   |some (m,z)=>(items (r.drop z)).map ((c,m):: ·)
   |none=>none
  else none:=by
 by_cases h:syms.contains c=true
 ·rw[items];all_goals simp only[if_pos h]
  all_goals (rcases rep r with _|⟨m,z⟩<;>rfl)
 ·rw[items];all_goals simp only[if_neg h]
theorem zvt(all:Nat)(out:uBH):exR all out (items [])=if all=0 then([],4)else if 256<all then([],3)else(out,0):=by rw[items];simp[exR,tot,flat]
theorem ZY{N:Nat}(hN:1000<N)(s:uBH)(hs:s.length<=400):∀(n i all:Nat)(out:uBH),i<=s.length->s.length-i<n->all<=99999*i->out.length<=256->(all<=256->out.length=all)->
  yl N n (.inr (s,(all:Int),(i:Int),out))=some (exR all out (items (s.drop i)))/\(out=[]->yl N n (.inl (s,(all:Int),(i:Int)))=some (exR all out (items (s.drop i))))
 |0,i,all,out,_,h,_,_,_=>by omega
 |n+1,i,all,out,hi,h,hall,ho,hoa=>by
  have step:∀(go:uBH×Int×Int×uBH->Option (uBH×Int))(go':uBH×Int×Int->Option (uBH×Int)),True:=fun _ _=>trivial
  rcases hd:s.drop i with _|⟨c,r⟩
  ·have hge:s.length<=i:=by have:=congrArg List.length hd;simp at this;omega
   rw[zvt];refine⟨?_,fun ho0=>?_⟩
   ·show Zd N (yl N n) s all i out=_;unfold Zd;rw[zb,if_neg (by omega),zb];by_cases h0:all=0
    ·rw[if_pos (by omega),if_pos h0]
    ·rw[if_neg (by omega),if_neg h0,zb];by_cases h1:256<all
     ·rw[if_pos (by omega),if_pos h1]
     ·rw[if_neg (by omega),if_neg h1];unfold KK;rw[decide_eq_true (by omega),za,zc]
   ·subst ho0;show Ze N (yl N n) s all i=_;unfold Ze;rw[zb,if_neg (by omega),zb];by_cases h0:all=0
    ·rw[if_pos (by omega),if_pos h0]
    ·rw[if_neg (by omega),if_neg h0,zb];by_cases h1:256<all
     ·rw[if_pos (by omega),if_pos h1]
     ·rw[if_neg (by omega),if_neg h1]
  ·obtain⟨hlt,hc,hr⟩:=zjG hd;have hrl:r.length=s.length-(i+1):=by rw[<-hr,nD]
   obtain⟨a,b,hrep,hab⟩:=zni (N:=N) (t:=r) (by omega) hN;have e1:((i:Int)+1)=((i+1:Nat):Int):=by omega
   have hdrop:zZ s ((i+1:Nat):Int)=r:=by unfold zZ;simpa using hr
   have hin:∀set:uBH,(bnd (of_ N set) fun rr=>ziU N (byteAt s (i:Int)) rr)=some (set.contains c):=by intro set;unfold of_;rw[zc,zI,hc,za1]
   have hof:∀set:uBH,ziU N (byteAt s (i:Int)) set=some (set.contains c):=by intro set;rw[zI,hc,za1]
   have hc255:ze .u8 (byteAt s (i:Int))=true:=by rw[zI];have:=(s.getD i 0).toNat_lt;exact yh.2 ⟨by show(0:Int)<=_;omega,by show _<=(255:Int);omega⟩
   have htb:[byteAt s (i:Int)].map toByte=[c]:=by rw[uAP,List.map_nil,zgG,hc]
   rw[zae];refine⟨?_,fun ho0=>?_⟩
   ·show Zd N (yl N n) s all i out=_;unfold Zd;rw[zb,if_pos (by omega),jo hlt,za,e1,zk (by omega) (by omega),za,zx.2 ⟨by omega,by omega,by omega⟩,za,hdrop,hrep,zc];cases hro:rep r with
    |none=>simp only[Option.isSome_none,uA7,cond_true];split<;>rfl
    |some x=>
     obtain⟨m,z⟩:=x;obtain⟨rfl,rfl⟩:=hab m z hro;obtain⟨m1,m2,m3,m4⟩:=zrX hro;simp only[Option.isSome_some,uAd,cond_false];have hsy:of_ N [65,88,57,83,86,80,90,42,43,45,46,44,36,66,48,47,67,82,68]=some syms:=rfl;rw[hsy,zc,hof,zc];cases hsc:syms.contains c with
     |false=>rfl
     |true=>
      simp only[uAd,cond_false,if_true];have e2:((all:Int)+(m:Int))=((all+m:Nat):Int):=by omega
      have e3:((1:Int)+(z:Int))=((1+z:Nat):Int):=by omega
      have e4:((i:Int)+((1+z:Nat):Int))=((i+1+z:Nat):Int):=by omega
      have hdz:r.drop z=s.drop (i+1+z):=by rw[<-hr,nQ]
      rw[e2,zk (by omega) (by omega),za,zb,hdz];by_cases hle:all+m<=256
      ·rw[if_pos (by omega),hc255,uAL,za,htb,KO c (by omega),zc];have hol:=hoa (by omega);obtain⟨q,hq⟩:=zj9 (N:=N) (s:=List.replicate m c) (l:=out) (by rw[nE];omega);rw[hq,zc,e3,zk (by omega) (by omega),za,e4,zk (by omega) (by omega),za];have:=(ZY hN s hs n (i+1+z) (all+m) (out++List.replicate m c) (by omega) (by omega) (by omega) (by simp;omega) (fun _=>by simp;omega)).1;rw[this,zbp _ m2 (fun _=>rfl)]
      ·rw[if_neg (by omega),e3,zk (by omega) (by omega),za,e4,zk (by omega) (by omega),za];have:=(ZY hN s hs n (i+1+z) (all+m) out (by omega) (by omega) (by omega) ho (fun h=>by omega)).1;rw[this,zbp (c:=c) _ m2 (fun h=>by omega)]
   ·subst ho0;show Ze N (yl N n) s all i=_;unfold Ze;rw[zb,if_pos (by omega),jo hlt,za,e1,zk (by omega) (by omega),za,zx.2 ⟨by omega,by omega,by omega⟩,za,hdrop,hrep,zc];cases hro:rep r with
    |none=>simp only[Option.isSome_none,uA7,cond_true];split<;>rfl
    |some x=>
     obtain⟨m,z⟩:=x;obtain⟨rfl,rfl⟩:=hab m z hro;obtain⟨m1,m2,m3,m4⟩:=zrX hro;simp only[Option.isSome_some,uAd,cond_false];have hsy:of_ N [65,88,57,83,86,80,90,42,43,45,46,44,36,66,48,47,67,82,68]=some syms:=rfl;rw[hsy,zc,hof,zc];cases hsc:syms.contains c with
     |false=>rfl
     |true=>
      simp only[uAd,cond_false,if_true];have e2:((all:Int)+(m:Int))=((all+m:Nat):Int):=by omega
      have e3:((1:Int)+(z:Int))=((1+z:Nat):Int):=by omega
      have e4:((i:Int)+((1+z:Nat):Int))=((i+1+z:Nat):Int):=by omega
      have hdz:r.drop z=s.drop (i+1+z):=by rw[<-hr,nQ]
      rw[e2,zk (by omega) (by omega),za,zb,hdz];by_cases hle:all+m<=256
      ·rw[if_pos (by omega),hc255,uAL,za,htb,KO c (by omega),zc];have hol:=hoa (by omega);obtain⟨q,hq⟩:=zif (N:=N) (s:=List.replicate m c) (by rw[nE];omega);rw[hq,zc,e3,zk (by omega) (by omega),za,e4,zk (by omega) (by omega),za];have:=(ZY hN s hs n (i+1+z) (all+m) (List.replicate m c) (by omega) (by omega) (by omega) (by simp;omega) (fun _=>by simp at hol⊢;omega)).1;rw[this,zbp (c:=c) (out:=[]) _ m2 (fun _=>by simp)]
      ·rw[if_neg (by omega),e3,zk (by omega) (by omega),za,e4,zk (by omega) (by omega),za];have:=(ZY hN s hs n (i+1+z) (all+m) [] (by omega) (by omega) (by omega) ho (fun h=>by omega)).2 rfl;rw[this,zbp (c:=c) _ m2 (fun h=>by omega)]
theorem zoJ{N:Nat}(hN:1000<N){s:uBH}(hs:s.length<=400):zj3 N s=some (exR 0 [] (items s)):=by unfold zj3;have:=(ZY hN s hs N 0 0 [] (by omega) (by omega) (by omega) (by simp) (fun _=>rfl)).2 rfl;simpa using this
end Go.Proofs.C06
end
section
set_option maxRecDepth 100000
namespace Go.Proofs.C06
open Go Go.RowKit Go.Vc Go.Am
theorem zeq{n:Int}(h1:0<=n)(h2:n<=255):IntKind.wrap .u8 n=n:=zax ⟨h1,h2⟩
end Go.Proofs.C06
end
section
set_option maxRecDepth 100000
namespace Go.Proofs.C06
open Go Go.RowKit Go.Vc Go.Am
theorem zcs(s:uBH)(n:Nat):zZ s (n:Int)=s.drop n:=rfl
def za2(r:uBH):Option (Nat×Int):=
 if 1<cnt [86] r then none
 else if cnt [57] (r.drop (cnt [86] r+cnt [80] (r.drop (cnt [86] r))))=0 then none
 else if 0<cnt [80] (r.drop (cnt [86] r))then
  if cnt [86] r+cnt [80] (r.drop (cnt [86] r))+cnt [57] (r.drop (cnt [86] r+cnt [80] (r.drop (cnt [86] r))))=r.length then
   some (cnt [57] (r.drop (cnt [86] r+cnt [80] (r.drop (cnt [86] r)))),((cnt [57] (r.drop (cnt [86] r+cnt [80] (r.drop (cnt [86] r))))+cnt [80] (r.drop (cnt [86] r)):Nat):Int))else none
 else if 0<cnt [86] r then
  if cnt [86] r+cnt [57] (r.drop (cnt [86] r))=r.length then some (cnt [57] (r.drop (cnt [86] r)),((cnt [57] (r.drop (cnt [86] r)):Nat):Int))else none
 else
  let c:=cnt [57] r;let k:=cnt [80] (r.drop c)
  if 0<k then
   if c+k=r.length\/r.drop (c+k)=[86]then some (c,-(k:Int))else none
  else if c=r.length then some (c,0)
  else if r.getD c 0=86 then
   if c+1+cnt [57] (r.drop (c+1))=r.length then some (c+cnt [57] (r.drop (c+1)),((cnt [57] (r.drop (c+1)):Nat):Int))else none
  else none
def jY(p:uBH)(sg:Bool)(d:Nat)(sc:Int):Shape:=Shape.mk 4 0 p d sc sg false false false false d
def unS(p:uBH):uBH:=if p.getD 0 0=83 then p.drop 1 else p
def sgS(p:uBH):Bool:=decide (p.getD 0 0=83)
end Go.Proofs.C06
end
section
set_option maxRecDepth 100000
namespace Go.Proofs.C06
open Go Go.RowKit Go.Vc Go.Am
abbrev rp(n:Nat)(c:UInt8):uBH:=List.replicate n c
theorem YB(c:UInt8)(t:uBH):∀n,cnt [c] (rp n c++t)=n+cnt [c] t
 |0=>by simp[rp]
 |n+1=>by have:=YB c t n;rw[rp,uAa,uAj,jZ,if_pos (by simp),this];omega
theorem yF{c x:UInt8}(h:c≠x)(t:uBH){n:Nat}(hn:1<=n):cnt [x] (rp n c++t)=0:=by
 obtain⟨m,rfl⟩:∃m,n=m+1:=⟨n-1,by omega⟩
 rw[rp,uAa,uAj,jZ,if_neg (by simpa using h)]
theorem Ve{c x:UInt8}(h:c≠x)(t:uBH):cnt [x] (c::t)=0:=by rw[jZ,if_neg (by simpa using h)]
theorem yG(c:UInt8)(n:Nat):cnt [c] (rp n c)=n:=by have:=YB c [] n;simpa[zpw]using this
theorem Vd{c x:UInt8}(h:c≠x)(n:Nat):cnt [x] (rp n c)=0:=by
 cases n with
 |zero=>rfl
 |succ n=>have:=yF h [] (n:=n+1) (by omega);simpa using this
theorem QE(c:UInt8)(t:uBH)(n:Nat):(rp n c++t).drop n=t:=by rw[uAe (by simp),uAm (by simp)];rfl
theorem zcq(c:UInt8)(t:uBH)(n m:Nat):(rp n c++t).drop (n+m)=t.drop m:=by rw[<-nQ,QE]
theorem zqV(c:UInt8)(n:Nat):(rp n c).drop n=[]:=uAm (by simp)
theorem JA(c:UInt8):∀s:uBH,s=rp (cnt [c] s) c++s.drop (cnt [c] s)
 |[]=>rfl
 |x::s=>by
  by_cases h:x=c
  ·subst h;rw[jZ,if_pos (by simp),uBx,rp,uAa,uAj,<-JA x s]
  ·rw[Ve h];rfl
theorem zej{c:UInt8}{s:uBH}:cnt [c] s=s.length↔s=rp s.length c:=by
 constructor
 ·intro h;have:=JA c s;rw[h,uBq,nV]at this;exact this
 ·intro h;rw[h,yG];simp
theorem Vf{c:UInt8}{s:uBH}(h:cnt [c] s=s.length):∃n,s=rp n c:=⟨_,zej.1 h⟩
def zmB(r:uBH)(d:Nat)(sc:Int):Prop:=(∃c f,1<=c/\r=rp c 57++(86::rp f 57)/\d=c+f/\sc=(f:Int))\/(∃a b c,a<=1/\1<=c/\r=rp a 86++(rp b 80++rp c 57)/\d=c/\sc=(if a=0/\b=0 then(0:Int)else((c+b:Nat):Int)))\/(∃c k e,1<=c/\1<=k/\e<=1/\r=rp c 57++(rp k 80++rp e 86)/\d=c/\sc= -(k:Int))
theorem zqC{r:uBH}{d:Nat}{sc:Int}(h:zmB r d sc):za2 r=some (d,sc):=by
 rcases h with⟨c,f,hc,rfl,rfl,rfl⟩|⟨a,b,c,ha,hc,rfl,hd,rfl⟩|⟨c,k,e,hc,hk,he,rfl,hd,rfl⟩
 ·have e1:cnt [86] (rp c 57++(86::rp f 57))=0:=yF (by decide) _ hc;have e2:cnt [80] (rp c 57++(86::rp f 57))=0:=yF (by decide) _ hc;have e3:cnt [57] (rp c 57++(86::rp f 57))=c:=by rw[YB,Ve (by decide)];rfl
  have e4:cnt [80] ((86:UInt8)::rp f 57)=0:=Ve (by decide) _;unfold za2;simp only[e1,uAk,e2,uAE,e3,QE,e4];have g1:(rp c 57++((86:UInt8)::rp f 57)).length=c+(f+1):=by simp
  have g2:(rp c 57++((86:UInt8)::rp f 57)).getD c 0=86:=by rw[mZ,uAc (by simp)];simp
  have g3:(rp c 57++((86:UInt8)::rp f 57)).drop (c+1)=rp f 57:=by rw[zcq];rfl
  rw[if_neg (by omega),if_neg (by omega),if_neg (by omega),if_neg (by omega),if_neg (by omega),if_neg (by rw[g1];omega),if_pos g2,g3,yG,if_pos (by rw[g1];omega)]
 ·obtain rfl:c=d:=hd.symm;have e1:cnt [86] (rp a 86++(rp b 80++rp c 57))=a:=by
   rw[YB];by_cases hb:b=0
   ·subst hb;have:=Vd (c:=57) (x:=86) (by decide) c;simp only[rp,List.replicate_zero,uAu]at*;omega
   ·rw[yF (by decide) _ (by omega)];rfl
  have e2:cnt [80] (rp b 80++rp c 57)=b:=by rw[YB,Vd (by decide)];rfl
  have g1:(rp a 86++(rp b 80++rp c 57)).length=a+(b+c):=by simp
  have g2:(rp a 86++(rp b 80++rp c 57)).drop (a+b)=rp c 57:=by rw[zcq,QE]
  unfold za2;simp only[e1,QE,e2,g2,yG,g1];rw[if_neg (by omega),if_neg (by omega)];by_cases hb:0<b
  ·rw[if_pos hb,if_pos (by omega),if_neg (by omega)]
  ·have hb0:b=0:=by omega
   subst hb0;rw[if_neg (by omega)];have e3:(rp 0 80++rp c 57:uBH)=rp c 57:=rfl;by_cases ha1:0<a
   ·rw[if_pos ha1,e3,yG,if_pos (by omega),if_neg (by omega)];rfl
   ·have ha0:a=0:=by omega
    subst ha0;rw[if_neg (by omega)];have e4:(rp 0 86++(rp 0 80++rp c 57):uBH)=rp c 57:=rfl;simp only[e4,yG,zqV,zpw];rw[if_neg (by omega),if_pos (by omega),if_pos (by simp)]
 ·obtain rfl:c=d:=hd.symm;have e1:cnt [86] (rp c 57++(rp k 80++rp e 86))=0:=yF (by decide) _ hc;have e2:cnt [80] (rp c 57++(rp k 80++rp e 86))=0:=yF (by decide) _ hc;have e3:cnt [57] (rp c 57++(rp k 80++rp e 86))=c:=by rw[YB,yF (by decide) _ hk];rfl
  have e4:cnt [80] (rp k 80++rp e 86)=k:=by rw[YB,Vd (by decide)];rfl
  have g1:(rp c 57++(rp k 80++rp e 86)).length=c+(k+e):=by simp
  have g3:(rp c 57++(rp k 80++rp e 86)).drop (c+k)=rp e 86:=by rw[zcq,QE]
  unfold za2;simp only[e1,uAk,e2,uAE,e3,QE,e4,g1,g3];rw[if_neg (by omega),if_neg (by omega),if_neg (by omega),if_neg (by omega),if_pos (by omega),if_pos];by_cases h:e=0
  ·left;omega
  ·right;rw[show e=1 by omega];rfl
theorem numS_form{r:uBH}{d:Nat}{sc:Int}(h:za2 r=some (d,sc)):zmB r d sc:=by
 unfold za2 at h;have s1:=JA 86 r;generalize cnt [86] r=a at*
 generalize hr1:r.drop a=r1 at*
 have s2:=JA 80 r1;have d2:r.drop (a+cnt [80] r1)=r1.drop (cnt [80] r1):=by rw[<-hr1,nQ]
 rw[d2]at h;have hl:=congrArg List.length s1;rw[nH,nE]at hl;have hb:=YY [80] r1;split at h
 ·cases h
 ·rename_i h1;split at h
  ·cases h
  ·rename_i h2;split at h
   ·rename_i h3;split at h
    ·rename_i h4;cases h;refine .inr (.inl ⟨a,cnt [80] r1,cnt [57] (r1.drop (cnt [80] r1)),by omega,by omega,?_,rfl,by rw[if_neg (by omega)]⟩);have h5:cnt [57] (r1.drop (cnt [80] r1))=(r1.drop (cnt [80] r1)).length:=by rw[nD];omega
     rw[zej.1 h5]at s2;rw[s2]at s1;rw[h5];exact s1
    ·cases h
   ·rename_i h3;have hb0:cnt [80] r1=0:=by omega
    rw[hb0,uAk]at h2;split at h
    ·split at h
     ·rename_i h4 h5;cases h;have h6:cnt [57] r1=r1.length:=by omega
      refine .inr (.inl ⟨a,0,cnt [57] r1,by omega,by omega,?_,rfl,by rw[if_neg (by omega)];rfl⟩);rw[zej.1 h6]at s1;rw[h6];exact s1
     ·cases h
    ·rename_i h4;have ha0:a=0:=by omega
     subst ha0;rw[uAk]at hr1;subst hr1;have s3:=JA 57 r;have hc:=YY [57] r;simp only[]at h;have s4:=JA 80 (r.drop (cnt [57] r));have hk:=YY [80] (r.drop (cnt [57] r));rw[nD]at hk;rw[nQ]at s4;generalize cnt [57] r=c at*
     generalize cnt [80] (r.drop c)=k at*
     split at h
     ·rename_i h5;split at h
      ·rename_i h6;cases h;rcases h6 with h6|h6
       ·refine .inr (.inr ⟨d,k,0,by omega,by omega,by omega,?_,rfl,rfl⟩);rw[uAm (show r.length<=d+k by omega),nV]at s4;rw[s4]at s3;simpa using s3
       ·refine .inr (.inr ⟨d,k,1,by omega,by omega,by omega,?_,rfl,rfl⟩);rw[h6]at s4;rw[s4]at s3;exact s3
      ·cases h
     ·split at h
      ·rename_i h5 h6;cases h;refine .inr (.inl ⟨0,0,d,by omega,by omega,?_,rfl,by simp⟩);rw[uAm (show r.length<=d by omega),nV]at s3;exact s3
      ·split at h
       ·split at h
        ·rename_i h5 h6 h7 h8;cases h;have hlt:c<r.length:=by omega
         refine .inl ⟨c,cnt [57] (r.drop (c+1)),by omega,?_,rfl,rfl⟩;have h9:cnt [57] (r.drop (c+1))=(r.drop (c+1)).length:=by rw[nD];omega
         rw[zN hlt,h7,zej.1 h9]at s3;rw[h9];exact s3
        ·cases h
       ·cases h
end Go.Proofs.C06
end
section
set_option maxRecDepth 100000
namespace Go.Proofs.C06
open Go Go.RowKit Go.Vc Go.Am
def zca(r:uBH):Option (Nat×Int):=if r.count 57=0\/1<r.count 86 then none else if r.count 80=0 then if cnt [57] (Lib.cut r [86]).1=(Lib.cut r [86]).1.length/\cnt [57] (Lib.cut r [86]).2.1=(Lib.cut r [86]).2.1.length then some (r.count 57,(((Lib.cut r [86]).2.1.length:Nat):Int))else none else if cnt [57] (Lib.trimLeftS r [86,80])=(Lib.trimLeftS r [86,80]).length/\((Lib.cut r [86]).2.2=false\/r.getD 0 0=86)then some (r.count 57,((r.count 57+r.count 80:Nat):Int))else if cnt [57] (Lib.trimRightS (Lib.trimSuffix r [86]) [80])=(Lib.trimRightS (Lib.trimSuffix r [86]) [80]).length then some (r.count 57,-((r.count 80:Nat):Int))else none
theorem Jg{N:Nat}{s:uBH}(hs:s.length<=400)(hN:1000<N):JR N s=some (decide (cnt [57] s=s.length)):=by unfold JR;have:=Yz (N:=N) (s:=s) (set:=[57]) (f:=0) (by omega) (by omega) (by omega);rw[show of_ N [57]=some [57]from rfl,zc];rw[show zY N s 0 [57]=some ((cnt [57] s:Nat):Int)from this,zc];congr 1;rw[uAx];simp only[decide_eq_true_eq];omega
theorem znT(t:uBH)(c:UInt8)(hc:c≠0):Lib.hasPrefix t [c]=decide (t.getD 0 0=c):=by
 unfold Lib.hasPrefix;cases t with
 |nil=>simp[hc.symm]
 |cons x t=>simp only[List.isPrefixOf,uAL,List.getD_cons_zero];rw[uAx];simp only[beq_iff_eq,decide_eq_true_eq];exact eq_comm
theorem zwO(r:uBH)(c:UInt8)(j:Nat):Lib.occAt r [c] j=true↔r[j]? =some c:=by
 unfold Lib.occAt;rcases h:r.drop j with _|⟨x,t⟩
 ·have:r[j]? =none:=by have:=congrArg List.length h;simp at this;exact uAD (by omega)
  simp[this,List.isPrefixOf]
 ·have:r[j]? =some x:=by
   have h2:(r.drop j)[0]? =some x:=by rw[h];rfl
   rw[nZ]at h2;simpa using h2
  rw[this];simp[List.isPrefixOf];exact eq_comm
theorem cut1(r:uBH)(c:UInt8):(Lib.cut r [c]=(r,[],false)/\r.count c=0)\/
  ∃i,i<r.length/\r.getD i 0=c/\Lib.cut r [c]=(r.take i,r.drop (i+1),true)/\(r.take i).count c=0:=by
 unfold Lib.cut;rcases Lib.index_spec r [c]with⟨h1,h2⟩|⟨i,h1,h2,h3,h4⟩
 ·left;rw[h1,if_neg (by omega)];refine⟨rfl,uBb.2 fun hm=>?_⟩;obtain⟨j,hj,he⟩:=List.mem_iff_getElem.1 hm;have:=h2 j (by omega);rw[<-Bool.not_eq_true,zwO]at this;exact this (by rw[mW hj,he])
 ·right;have h5:=(zwO r c i).1 h3;have hlt:i<r.length:=by
   rcases uA9 i r.length with h|h
   ·exact h
   ·rw[uAD h]at h5;cases h5
  refine⟨i,hlt,by rw[mZ,h5];rfl,by rw[h1,if_pos (by omega)];rfl,uBb.2 fun hm=>?_⟩;obtain⟨j,hj,he⟩:=List.mem_iff_getElem.1 hm;rw[nA]at hj;have:=h4 j (by omega);rw[<-Bool.not_eq_true,zwO]at this;rw[List.getElem_take]at he;exact this (by rw[mW (by omega),he])
theorem Wy{N:Nat}(hN:1000<N){r:uBH}(hr:r.length<=400)(b0:Shape)(p:uBH)(sg:Bool)(t:Bool)(ht:t=decide (r.count 57=0\/1<r.count 86)):
  ∃sh,JQ N r (Lib.cut r [86]).1 (Lib.cut r [86]).2.1 (Lib.cut r [86]).2.2 ((r.count 80:Nat):Int) (Lib.trimLeftS r [86,80]) t b0 (Shape.mk 4 0 p ((r.count 57:Nat):Int) 0 sg false false false false ((r.count 57:Nat):Int))=some (sh,(zca r).isSome)/\∀d sc,zca r=some (d,sc)->sh=jY p sg d sc:=by
 have c57:=uAK (a:=(57:UInt8)) (l:=r);have c80:=uAK (a:=(80:UInt8)) (l:=r);have lw:(Lib.cut r [86]).1.length<=400/\(Lib.cut r [86]).2.1.length<=400:=by
  rcases cut1 r 86 with⟨h,_⟩|⟨i,_,_,h,_⟩
  ·rw[h];exact⟨hr,by simp⟩
  ·rw[h];simp only[nA,nD];omega
 have lt:(Lib.trimLeftS r [86,80]).length<=400:=by unfold Lib.trimLeftS;exact nY (List.Sublist.length_le (uBz _)) hr
 have lts:(Lib.trimSuffix r [86]).length<=400:=by
  unfold Lib.trimSuffix;split
  ·rw[nA];omega
  ·exact hr
 have ltr:(Lib.trimRightS (Lib.trimSuffix r [86]) [80]).length<=400:=by unfold Lib.trimRightS;rw[List.length_reverse];refine nY (List.Sublist.length_le (uBz _)) ?_;rw[List.length_reverse];exact lts
 subst ht;unfold JQ zca;rw[zb];by_cases h1:r.count 57=0\/1<r.count 86
 ·rw[if_pos h1,if_pos h1];exact⟨_,rfl,fun _ _ h=>by cases h⟩
 ·rw[if_neg h1,if_neg h1,zb];by_cases h2:r.count 80=0
  ·rw[if_pos (by omega),if_pos h2,Jg lw.1 hN,zc,zb];by_cases h3:cnt [57] (Lib.cut r [86]).1=(Lib.cut r [86]).1.length
   ·rw[if_pos h3,Jg lw.2 hN,zc];by_cases h4:cnt [57] (Lib.cut r [86]).2.1=(Lib.cut r [86]).2.1.length
    ·rw[if_pos ⟨h3,h4⟩,decide_eq_true h4];exact⟨_,rfl,fun _ _ h=>by cases h;rfl⟩
    ·rw[if_neg (fun h=>h4 h.2),decide_eq_false h4];exact⟨_,rfl,fun _ _ h=>by cases h⟩
   ·rw[if_neg h3,if_neg (fun h=>h3 h.1)];exact⟨_,rfl,fun _ _ h=>by cases h⟩
  ·rw[if_neg (by omega),if_neg h2,Jg lt hN,zc,zb];have hF:∃sh,yx N r ((r.count 80:Nat):Int) false b0 (Shape.mk 4 0 p ((r.count 57:Nat):Int) 0 sg false false false false ((r.count 57:Nat):Int))=
     some (sh,(if cnt [57] (Lib.trimRightS (Lib.trimSuffix r [86]) [80])=(Lib.trimRightS (Lib.trimSuffix r [86]) [80]).length then some (r.count 57,-((r.count 80:Nat):Int))else none).isSome)/\
     ∀d sc,(if cnt [57] (Lib.trimRightS (Lib.trimSuffix r [86]) [80])=(Lib.trimRightS (Lib.trimSuffix r [86]) [80]).length then some (r.count 57,-((r.count 80:Nat):Int))else none)=some (d,sc)->sh=jY p sg d sc:=by
    unfold yx KL zaa;rw[cond_false,zk (by omega) (by omega),za,decide_eq_true (by omega),za,zc,decide_eq_true (by omega)];rw[show(true&&(decide (([80]:uBH).length<4294967281)&&Vm [80]))=true from rfl,za,zc,Jg ltr hN,zc];by_cases h4:cnt [57] (Lib.trimRightS (Lib.trimSuffix r [86]) [80])=(Lib.trimRightS (Lib.trimSuffix r [86]) [80]).length
    ·rw[if_pos h4,decide_eq_true h4];exact⟨_,rfl,fun _ _ h=>by cases h;rfl⟩
    ·rw[if_neg h4,decide_eq_false h4];exact⟨_,rfl,fun _ _ h=>by cases h⟩
   have hT:∃sh,yx N r ((r.count 80:Nat):Int) true b0 (Shape.mk 4 0 p ((r.count 57:Nat):Int) 0 sg false false false false ((r.count 57:Nat):Int))=
     some (sh,true)/\sh=jY p sg (r.count 57) ((r.count 57+r.count 80:Nat):Int):=by
    unfold yx;rw[cond_true,show(((r.count 57:Nat):Int)+((r.count 80:Nat):Int))=((r.count 57+r.count 80:Nat):Int)by omega,zk (by omega) (by omega),za];exact⟨_,rfl,rfl⟩
   by_cases h3:cnt [57] (Lib.trimLeftS r [86,80])=(Lib.trimLeftS r [86,80]).length
   ·rw[if_pos h3];cases hpt:(Lib.cut r [86]).2.2 with
    |false=>rw[if_pos ⟨h3,.inl rfl⟩];obtain⟨sh,e1,e2⟩:=hT;exact⟨sh,e1,fun _ _ h=>by cases h;exact e2⟩
    |true=>
     have hl:0<r.length:=by
      rcases uA0 r.length with h|h
      ·have:r.count 80<=0:=by omega
       omega
      ·exact h
     have hx:=jo hl;have hb:=zI r 0;rw[show((0:Nat):Int)=0 from rfl]at hx hb;simp only[uAd,cond_false,hx,za,hb];by_cases h5:r.getD 0 0=86
     ·rw[if_pos ⟨h3,.inr h5⟩,decide_eq_true (by rw[h5];rfl)];obtain⟨sh,e1,e2⟩:=hT;exact⟨sh,e1,fun _ _ h=>by cases h;exact e2⟩
     ·rw[if_neg (by rintro⟨_,h|h⟩;cases h;exact h5 h),decide_eq_false (show¬(((r.getD 0 0).toNat:Int)=86)from fun e=>h5 (YD.1 e))];exact hF
   ·rw[if_neg h3,if_neg (fun h=>h3 h.1)];exact hF
theorem zk8{N:Nat}(hN:1000<N){p:uBH}(hp:p.length<=400):
  ∃sh,zdO N p=some (sh,(zca (unS p)).isSome)/\∀d sc,zca (unS p)=some (d,sc)->sh=jY p (sgS p) d sc:=by
 have hu:Lib.trimPrefix p [83]=unS p/\Lib.hasPrefix p [83]=sgS p:=by unfold Lib.trimPrefix unS sgS;rw[znT p 83 (by decide)];simp
 have hr:(unS p).length<=400:=by
  unfold unS;split
  ·rw[nD];omega
  ·exact hp
 unfold zdO Xj znP Jw;rw[zc,hu.1,hu.2];generalize unS p=r at*
 rw[decide_eq_true (show r.length<4294967281 by omega),za,zc];show∃sh,(bnd (some ((r.count 80:Nat):Int)) fun rr2=>bnd (some ((r.count 57:Nat):Int)) fun rr3=>_)=_/\_;rw[zc,zc];rw[show(decide (([86,80]:uBH).length<4294967281)&&Vm [86,80])=true from rfl,za,zc,zb];by_cases h:r.count 57=0
 ·rw[if_pos (by omega)];exact Wy hN hr _ p (sgS p) true (by rw[decide_eq_true (.inl h)])
 ·rw[if_neg (by omega)];show∃sh,(bnd (some ((r.count 86:Nat):Int)) fun rr11=>_)=_/\_;rw[zc];refine Wy hN hr _ p (sgS p) _ ?_;rw[uAx];simp only[decide_eq_true_eq];omega
end Go.Proofs.C06
end
section
set_option maxRecDepth 100000
namespace Go.Proofs.C06
open Go Go.RowKit Go.Vc Go.Am
theorem zu(c x:UInt8)(n:Nat):(rp n c).count x=if c=x then n else 0:=by rw[rp,List.count_replicate];by_cases h:c=x<;>simp[h]
theorem zma{r:uBH}{c:UInt8}(h:r.count c=0):Lib.cut r [c]=(r,[],false):=by
 rcases cut1 r c with⟨h1,_⟩|⟨i,hi,hc,_,_⟩
 ·exact h1
 ·exfalso;have:c∈r:=by rw[<-hc,VY hi];exact uA5 hi
  exact absurd h (by have:=List.count_pos_iff.2 this;omega)
theorem ztk{s t:uBH}{c:UInt8}(h:s.count c=0):Lib.cut (s++c::t) [c]=(s,t,true):=by
 rcases cut1 (s++c::t) c with⟨_,h1⟩|⟨i,hi,hc,he,h0⟩
 ·rw[nP,List.count_cons_self]at h1;omega
 ·have hm:=uBb.1 h;have hm0:=uBb.1 h0;have h1:i=s.length:=by
   rcases Nat.lt_trichotomy i s.length with hlt|heq|hgt
   ·exfalso;apply hm;rw[VY hi,List.getElem_append_left hlt]at hc;rw[<-hc];exact uA5 hlt
   ·exact heq
   ·exfalso;apply hm0;have:(s++c::t).take i=s++(c::t).take (i-s.length):=by rw[List.take_append];rw[uAh (by omega)]
    rw[this,nJ];right;obtain⟨m,hm⟩:∃m,i-s.length=m+1:=⟨i-s.length-1,by omega⟩
    rw[hm,uAH];simp
  subst h1;rw[he];simp
theorem Jm{set:uBH}{c:UInt8}(h:set.contains c=true)(t:uBH):∀n,(rp n c++t).dropWhile (set.contains ·)=t.dropWhile (set.contains ·)
 |0=>rfl
 |n+1=>by rw[rp,uAa,uAj,List.dropWhile_cons,if_pos h];exact Jm h t n
theorem XC{set:uBH}{c:UInt8}(h:set.contains c=false)(t:uBH){n:Nat}(hn:1<=n):(rp n c++t).dropWhile (set.contains ·)=rp n c++t:=by
 obtain⟨m,rfl⟩:∃m,n=m+1:=⟨n-1,by omega⟩
 rw[rp,uAa,uAj,List.dropWhile_cons,if_neg (by rw[h];simp)]
theorem ziL(n:Nat)(c:UInt8):(rp n c).reverse=rp n c:=List.reverse_replicate ..
theorem zfB(s:uBH)(c x:UInt8):Lib.hasSuffix (s++[x]) [c]=decide (x=c):=by
 unfold Lib.hasSuffix;rw[uAx,decide_eq_true_eq,List.isSuffixOf_iff_suffix];constructor
 ·rintro⟨t,ht⟩;have:=congrArg List.getLast? ht;simpa using this.symm
 ·rintro rfl;exact⟨s,rfl⟩
theorem zkM(n:Nat)(c:UInt8):rp (n+1) c=rp n c++[c]:=List.replicate_succ'
theorem zhb(s:uBH)(c x:UInt8):(s++[x]).take ((s++[x]).length-[c].length)=s:=by
 have:(s++[x]).length-[c].length=s.length:=by simp
 rw[this,List.take_left]
theorem zqD{r:uBH}{d:Nat}{sc:Int}(h:zmB r d sc):zca r=some (d,sc):=by
 rcases h with⟨c,f,hc,rfl,rfl,rfl⟩|⟨a,b,c,ha,hc,rfl,hd,rfl⟩|⟨c,k,e,hc,hk,he,rfl,hd,rfl⟩
 ·have e1:(rp c 57++((86:UInt8)::rp f 57)).count 57=c+f:=by rw[nP,List.count_cons_of_ne (by decide),zu,zu];rfl
  have e2:(rp c 57++((86:UInt8)::rp f 57)).count 86=1:=by rw[nP,List.count_cons_self,zu,zu];rfl
  have e3:(rp c 57++((86:UInt8)::rp f 57)).count 80=0:=by rw[nP,List.count_cons_of_ne (by decide),zu,zu];rfl
  have e4:Lib.cut (rp c 57++((86:UInt8)::rp f 57)) [86]=(rp c 57,rp f 57,true):=ztk (by rw[zu];rfl);unfold zca;rw[e1,e2,e3,e4,if_neg (by omega),if_pos rfl,if_pos ⟨by rw[yG];simp,by rw[yG];simp⟩];simp
 ·obtain rfl:c=d:=hd.symm;have e1:(rp a 86++(rp b 80++rp c 57)).count 57=c:=by rw[nP,nP,zu,zu,zu];simp
  have e2:(rp a 86++(rp b 80++rp c 57)).count 86=a:=by rw[nP,nP,zu,zu,zu];simp
  have e3:(rp a 86++(rp b 80++rp c 57)).count 80=b:=by rw[nP,nP,zu,zu,zu];simp
  unfold zca;rw[e1,e2,e3,if_neg (by omega)];by_cases hb:b=0
  ·subst hb;rw[if_pos rfl];by_cases h0:a=0
   ·subst h0;rw[show(rp 0 86++(rp 0 80++rp c 57))=rp c 57 from rfl,zma (by rw[zu];rfl),if_pos ⟨by rw[yG];simp,rfl⟩,if_pos (by simp)];rfl
   ·have:a=1:=by omega
    subst this;rw[show(rp 1 86++(rp 0 80++rp c 57))=[]++86::rp c 57 from rfl,ztk rfl,if_pos ⟨rfl,by rw[yG];simp⟩,if_neg (by omega)];simp
  ·rw[if_neg hb];have e5:Lib.trimLeftS (rp a 86++(rp b 80++rp c 57)) [86,80]=rp c 57:=by unfold Lib.trimLeftS;rw[Jm rfl,Jm rfl];have:=XC (set:=[86,80]) (c:=57) rfl [] (n:=c) hc;rw[nV]at this;exact this
   rw[e5,if_pos,if_neg (by omega)];refine⟨by rw[yG];simp,?_⟩;by_cases h0:a=0
   ·left;subst h0;rw[zma e2]
   ·right;have:a=1:=by omega
    subst this;rfl
 ·obtain rfl:c=d:=hd.symm;have e1:(rp c 57++(rp k 80++rp e 86)).count 57=c:=by rw[nP,nP,zu,zu,zu];simp
  have e2:(rp c 57++(rp k 80++rp e 86)).count 86=e:=by rw[nP,nP,zu,zu,zu];simp
  have e3:(rp c 57++(rp k 80++rp e 86)).count 80=k:=by rw[nP,nP,zu,zu,zu];simp
  have e5:Lib.trimLeftS (rp c 57++(rp k 80++rp e 86)) [86,80]=rp c 57++(rp k 80++rp e 86):=XC rfl _ hc;have e6:cnt [57] (rp c 57++(rp k 80++rp e 86))=c:=by rw[YB,yF (by decide) _ hk];rfl
  have e7:Lib.trimSuffix (rp c 57++(rp k 80++rp e 86)) [86]=rp c 57++rp k 80:=by
   unfold Lib.trimSuffix;by_cases h0:e=0
   ·subst h0;obtain⟨m,rfl⟩:∃m,k=m+1:=⟨k-1,by omega⟩
    rw[show rp (m+1) 80++rp 0 86=rp m 80++[80]by rw[zkM];simp,<-nI,zfB,if_neg (by simp),zkM,nI]
   ·have:e=1:=by omega
    subst this;rw[show rp 1 86=[86]from rfl,<-nI,zfB,if_pos (by simp)];exact zhb _ _ _
  have e8:Lib.trimRightS (rp c 57++rp k 80) [80]=rp c 57:=by unfold Lib.trimRightS;rw[List.reverse_append,ziL,ziL,Jm rfl];have:=XC (set:=[80]) (c:=57) rfl [] (n:=c) hc;rw[nV]at this;rw[this,ziL]
  unfold zca;rw[e1,e2,e3,if_neg (by omega),if_neg (by omega),e5,e6,if_neg (by simp;omega),e7,e8,if_pos (by rw[yG];simp)]
theorem ztG{c:UInt8}{l:uBH}(h:∀x∈l,x=c):l=rp l.length c:=List.eq_replicate_iff.2 ⟨rfl,h⟩
theorem zpB{l:uBH}{a b:UInt8}(h:∀x∈l,x=a\/x=b)(h0:l.count a=0):l=rp l.length b:=by
 refine ztG fun x hx=>?_
 rcases h x hx with rfl|h
 ·exact absurd hx (uBb.1 h0)
 ·exact h
theorem Ww{set:uBH}{l:uBH}:∀x∈l.takeWhile (set.contains ·),set.contains x=true:=by
 induction l with
 |nil=>intro x hx;cases hx
 |cons y l ih=>
  intro x hx;rw[List.takeWhile_cons]at hx;split at hx
  ·rename_i hy;rcases nS.1 hx with rfl|hx
   ·exact hy
   ·exact ih x hx
  ·cases hx
theorem zqj{r:uBH}{d:Nat}{sc:Int}(h:zca r=some (d,sc)):∃d sc,zmB r d sc:=by
 unfold zca at h;split at h
 ·cases h
 ·rename_i h1;split at h
  ·rename_i h2;split at h
   ·rename_i h3;obtain⟨h3,h4⟩:=h3;rcases cut1 r 86 with⟨hc,h5⟩|⟨i,hi,hg,hc,h5⟩
    ·rw[hc]at h3;obtain⟨n,hn⟩:=Vf h3;replace hn:r=rp n 57:=hn;refine⟨n,0,.inr (.inl ⟨0,0,n,by omega,?_,hn,rfl,by simp⟩)⟩;have:r.count 57=n:=by rw[hn,zu];rfl
     omega
    ·rw[hc]at h3 h4;obtain⟨n,hn⟩:=Vf h3;obtain⟨f,hf⟩:=Vf h4;replace hn:r.take i=rp n 57:=hn;replace hf:r.drop (i+1)=rp f 57:=hf;have hr:r=rp n 57++(86::rp f 57):=by rw[<-hn,<-hf,<-hg,<-zN hi,nL]
     by_cases h0:n=0
     ·subst h0;refine⟨f,f,.inr (.inl ⟨1,0,f,by omega,?_,hr,rfl,by simp⟩)⟩;have:r.count 57=f:=by rw[hr,nP,List.count_cons_of_ne (by decide),zu,zu];simp
      omega
     ·exact⟨n+f,f,.inl ⟨n,f,by omega,hr,rfl,rfl⟩⟩
   ·cases h
  ·rename_i h2;have hsplit:r=r.takeWhile (([86,80]:uBH).contains ·)++Lib.trimLeftS r [86,80]:=(List.takeWhile_append_dropWhile).symm;have hmem:∀x∈r.takeWhile (([86,80]:uBH).contains ·),x=86\/x=80:=fun x hx=>by have:=Ww x hx;simpa using this
   split at h
   ·rename_i h3;obtain⟨h3,h4⟩:=h3;obtain⟨c,hc⟩:=Vf h3;rw[hc]at hsplit;have h57:(r.takeWhile (([86,80]:uBH).contains ·)).count 57=0:=uBb.2 fun hm=>by rcases hmem _ hm with h|h<;>cases h
    have hc1:r.count 57=c:=by have:=congrArg (List.count 57) hsplit;rw[nP,h57,zu]at this;simpa using this
    by_cases h86:(r.takeWhile (([86,80]:uBH).contains ·)).count 86=0
    ·have:=zpB hmem h86;rw[this]at hsplit;exact⟨c,_,.inr (.inl ⟨0,_,c,by omega,by omega,hsplit,rfl,rfl⟩)⟩
    ·have hr86:r.count 86=(r.takeWhile (([86,80]:uBH).contains ·)).count 86:=by have:=congrArg (List.count 86) hsplit;rw[nP,zu]at this;simpa using this
     rcases h4 with h4|h4
     ·exfalso;rcases cut1 r 86 with⟨hcc,h5⟩|⟨i,hi,hg,hcc,h5⟩
      ·omega
      ·rw[hcc]at h4;cases h4
     ·cases hT:r.takeWhile (([86,80]:uBH).contains ·)with
      |nil=>rw[hT]at h86;exact absurd rfl h86
      |cons y T=>
       rw[hT]at hsplit hmem hr86;have hy:y=86:=by rw[hsplit]at h4;simpa using h4
       subst hy;rw[List.count_cons_self]at hr86;have:=zpB (fun x hx=>hmem x (by simp[hx])) (show T.count 86=0 by omega);rw[this]at hsplit;exact⟨c,_,.inr (.inl ⟨1,_,c,by omega,by omega,hsplit,rfl,rfl⟩)⟩
   ·split at h
    ·rename_i h3 h4;obtain⟨c,hc⟩:=Vf h4;have hs:∃k,Lib.trimSuffix r [86]=rp c 57++rp k 80:=by have:=(List.takeWhile_append_dropWhile (p:=(([80]:uBH).contains ·)) (l:=(Lib.trimSuffix r [86]).reverse)).symm;have h5:=ztG (c:=80) (l:=(Lib.trimSuffix r [86]).reverse.takeWhile (([80]:uBH).contains ·)) (fun x hx=>by have:=Ww x hx;simpa using this);rw[h5]at this;have h6:=congrArg List.reverse this;rw[List.reverse_reverse,List.reverse_append,ziL]at h6;unfold Lib.trimRightS at hc;rw[hc]at h6;exact⟨_,h6⟩
     obtain⟨k,hk⟩:=hs;have hr:∃e,e<=1/\r=rp c 57++(rp k 80++rp e 86):=by
      unfold Lib.trimSuffix at hk;split at hk
      ·rename_i h5;unfold Lib.hasSuffix at h5;obtain⟨t,ht⟩:=List.isSuffixOf_iff_suffix.1 h5;refine⟨1,by omega,?_⟩;rw[<-ht]at hk⊢;rw[zhb]at hk;rw[hk,nI];rfl
      ·exact⟨0,by omega,by rw[hk];simp⟩
     obtain⟨e,he,hr⟩:=hr;have e1:r.count 57=c:=by rw[hr,nP,nP,zu,zu,zu];simp
     have e3:r.count 80=k:=by rw[hr,nP,nP,zu,zu,zu];simp
     exact⟨c,_,.inr (.inr ⟨c,k,e,by omega,by omega,he,hr,rfl,rfl⟩)⟩
    ·cases h
theorem zqi(r:uBH):zca r=za2 r:=by
 cases h:za2 r with
 |some x=>exact zqD (numS_form h)
 |none=>
  cases h2:zca r with
  |none=>rfl
  |some y=>obtain⟨d,sc,hf⟩:=zqj h2;rw[zqC hf]at h;cases h
end Go.Proofs.C06
end
section
set_option maxRecDepth 100000
namespace Go.Proofs.C06
open Go Go.RowKit Go.Vc Go.Am
def qD(c:UInt8):Bool:=([66,48,47,44]:uBH).contains c
def noIns(s:uBH):uBH:=s.filter (fun c=>!qD c)
theorem Xe(c:UInt8)(s:uBH):noIns (c::s)=if qD c then noIns s else c::noIns s:=by unfold noIns;rw[List.filter_cons];cases qD c<;>rfl
theorem zxk(s:uBH)(i:Nat):(bs s).get! i=s.getD i 0:=by show s.toArray[i]! =_;rw[List.getElem!_toArray,List.getElem!_eq_getElem?_getD,mZ];rfl
theorem WI(s:uBH)(i:Nat)(h:(s.getD i 0).toNat<128):Utf8.decode (bs s) i=((s.getD i 0).toNat,1):=by unfold Utf8.decode;simp only[uAE,zxk];rw[if_pos h]
theorem Jf{s:uBH}{i:Nat}(h:(s.getD i 0).toNat<128):ql s i=((s.getD i 0).toNat:Int):=by unfold ql;rw[WI s i h]
theorem ZD{s:uBH}{i:Nat}(h:(s.getD i 0).toNat<128):widthAt s i=1:=by unfold widthAt;rw[WI s i h]
theorem zc4(N:Nat){c:UInt8}(h:c.toNat<128):zbq N (c.toNat:Int)=some (if qD c then-1 else(c.toNat:Int)):=by unfold zbq YS;rw[decide_eq_true (by omega),decide_eq_true (by omega)];simp only[uA4,za,zc,WR,jE];unfold qD;cases([66,48,47,44]:uBH).contains c<;>rfl
theorem VX{s:uBH}{i:Nat}(h:i<s.length):s.getD i 0∈s:=by rw[VY h];exact uA5 h
theorem zmV(c:UInt8):[(c.toNat:Int)].map toByte=[c]:=by
 show[toByte (c.toNat:Int)]=[c]
 unfold toByte;simp
theorem Z3{N:Nat}(s:uBH)(hs:s.length<=400)(ha:∀c∈s,c.toNat<128):∀(n i:Nat)(out:uBH),i<=s.length->s.length-i<n->out.length<=400+i->
  qW N n s i out=some (out++noIns (s.drop i))
 |0,i,out,_,h,_=>by omega
 |n+1,i,out,hi,h,ho=>by
  show JT N (qW N n) s i out=_;unfold JT;by_cases hlt:i<s.length
  ·have hc:=ha _ (VX hlt);rw[show Nat.blt i s.length=true from nT hlt,cond_true,Jf hc,zc4 N hc,zc,ZD hc,zN hlt,Xe,zb];cases hd:qD (s.getD i 0)with
   |true=>rw[if_pos rfl,if_neg (by omega),if_pos rfl];exact Z3 s hs ha n (i+1) out (by omega) (by omega) (by omega)
   |false=>simp only[nW,if_false];rw[if_pos (by omega),zb,if_pos (by omega),zeq (by omega) (by omega)];unfold Vi;rw[show ze .u8 ((s.getD i 0).toNat:Int)=true from yh.2 ⟨by show(0:Int)<=_;omega,by show _<=(255:Int);omega⟩];rw[uAL,za,zmV,jT (by simp;omega),za,zc,Z3 s hs ha n (i+1) _ (by omega) (by omega) (by simp;omega),nI];rfl
  ·rw[show Nat.blt i s.length=false from Bool.eq_false_iff.2 (fun e=>hlt (nN e)),cond_false,uAm (by omega)];unfold KK;rw[decide_eq_true (by omega),za,zc];simp[noIns]
theorem X0{N:Nat}(hN:1000<N)(s:uBH)(hs:s.length<=400)(ha:∀c∈s,c.toNat<128):∀(n i:Nat),i<=s.length->s.length-i<n->
  yP N n s s i=some (s.take i++noIns (s.drop i))
 |0,i,_,h=>by omega
 |n+1,i,hi,h=>by
  show JU N (yP N n) s s i=_;unfold JU;by_cases hlt:i<s.length
  ·have hc:=ha _ (VX hlt);rw[show Nat.blt i s.length=true from nT hlt,cond_true,Jf hc,zc4 N hc,zc,ZD hc,zN hlt,Xe,zb];cases hd:qD (s.getD i 0)with
   |true=>
    rw[if_pos rfl,if_neg (by omega),if_pos rfl];unfold Jh;rw[zb,if_neg (by omega)];have hrl:JY ((s.getD i 0).toNat:Int)=some 1:=by unfold JY Lib.runeLen;rw[if_neg (by omega),if_pos (by omega)]
    rw[hrl,zc,zk (by omega) (by omega),za];have hg:zar N ((s.length:Int)+4)=some []:=by
     unfold zar;rw[decide_eq_false (by omega),cond_false,decide_eq_true (by omega),cond_true];have:Q8 ((s.length:Int)+4)=true:=by rw[show((s.length:Int)+4)=Int.ofNat (s.length+4)from rfl];unfold Q8;simp only[nT (show 1<=s.length+4 by omega),nT (show s.length+4<=281474976710656 by omega)];rfl
     rw[this,za,zc]
    rw[hg,zc,zx.2 ⟨by omega,by omega,by omega⟩,za];unfold Jo;have ht:jC s (i:Int)=s.take i:=rfl;rw[ht,uAu,jT (by rw[nA];omega),za,zc,decide_eq_false (by omega),cond_false];rw[show((i:Int)+1)=((i+1:Nat):Int)by omega,zk (by omega) (by omega),za,zx.2 ⟨by omega,by omega,by omega⟩,za];unfold zgi;rw[zc,zcs];have:=Z3 (N:=N) (s.drop (i+1)) (by rw[nD];omega) (fun c hc=>ha c (uBF hc)) N 0 (s.take i) (by omega) (by rw[nD];omega) (by rw[nA];omega);rw[this,uAk]
   |false=>simp only[nW,if_false];rw[if_true,decide_eq_false (by omega),uA7,cond_true,X0 hN s hs ha n (i+1) (by omega) (by omega)];rw[uBv,nI];congr 2;rw[mW hlt,<-VY hlt];rfl
  ·rw[show Nat.blt i s.length=false from Bool.eq_false_iff.2 (fun e=>hlt (nN e)),cond_false,uAm (by omega),uAh (by omega)];simp[noIns]
theorem zgM{N:Nat}(hN:1000<N){s:uBH}(hs:s.length<=400)(ha:∀c∈s,c.toNat<128):VS N s=some (noIns s):=by unfold VS;have:=X0 hN s hs ha N 0 (by omega) (by omega);simpa using this
end Go.Proofs.C06
end
