/-
  A part of the proof of the laws.
-/
import Derived.Test.YtannhfbidakffaaGreatDoorAm1
import Derived.Test.YtannhfbidakffaaGreatDoorS2
set_option maxRecDepth 100000
namespace Go.Proofs.C06
open Go Go.RowKit Go.Vc Go.Am
theorem zh{n:Int}(j: -9223372036854775808<=n)(B:n<=9223372036854775807):inKb .i64 n=true:=
 yq.2 ⟨j,B⟩
theorem zb{α:Type}{p:Prop}[Decidable p]{a b:α}:cond (decide p) a b=if p then a else b:=by by_cases h:p<;>simp[h]
theorem zj{α:Type}{p:Prop}[Decidable p]{a b:α}:cond (!decide p) a b=if p then b else a:=by by_cases h:p<;>simp[h]
theorem jB{i n:Nat}(h:i<n):inIx (i:Int) n=true:=zw.2 ⟨oM,oM⟩
theorem zP(s:uAU)(i:Nat):byteAt s (i:Int)=((s.getD i 0).toNat:Int):=rfl
theorem zcK{s:uAU}{i:Nat}(h:i<s.length):s.getD i 0=s[i]:=by rw[mN,mJ h];rfl
theorem jq{s:uAU}{i:Nat}(h:i<s.length):s.drop i=s.getD i 0::s.drop (i+1):=by rw[uAl h,zcK h]
theorem za2(c:UInt8):((c.toNat:Int).toNat.toUInt8)=c:=sI
theorem Qh{a b:UInt8}:((a.toNat:Int)=(b.toNat:Int))↔a=b:=by rw[Int.ofNat_inj,UInt8.toNat_inj]
def cnt(set s:uAU):Nat:=(s.takeWhile (set.contains ·)).length
theorem zt3(set:uAU):cnt set []=0:=rfl
theorem yf(set:uAU)(c:UInt8)(s:uAU):cnt set (c::s)=if set.contains c then cnt set s+1 else 0:=by unfold cnt;rw[List.takeWhile_cons];split<;>simp_all
theorem QD(set s:uAU):cnt set s<=s.length:=by unfold cnt;exact List.Sublist.length_le (List.takeWhile_sublist _)
theorem jN(c:UInt8):∀l:uAU,(0<=Lib.indexByte l c)↔l.contains c=true
 |[]=>by simp[Lib.indexByte]
 |b::l=>by
  have I:=jN c l;have S:=Lib.indexByte_ge l c;unfold Lib.indexByte;by_cases B:b=c
  ·subst B;simp
  ·have j:¬(c=b):=fun e=>B e.symm
   by_cases H:Lib.indexByte l c= -1
   ·have:¬(0<=Lib.indexByte l c):=oM
    rw[I]at this;simp only[List.contains_cons];simp[B,j,H];simpa using this
   ·have O:0<=Lib.indexByte l c:=oM
    have J:=I.1 O;simp only[List.contains_cons];simp[B,j,H];exact⟨fun _=>by simpa using J,fun _=>oM⟩
theorem zcn(N:Nat)(c:UInt8)(set:uAU):zlX N (c.toNat:Int) set=some (set.contains c):=by unfold zlX yo;simp only[zc,za2];congr 1;rw[Bool.eq_iff_iff];simp only[decide_eq_true_eq,jN]
theorem zc3(N:Nat)(s set:uAU)(f:Nat)(B:s.length<=4611686018427387904):∀(n k:Nat),f+k<=s.length->s.length-(f+k)<n->
  YT N n s (f:Int) set (k:Int)=some ((k+cnt set (s.drop (f+k)):Nat):Int)
 |0,k,_,h=>oM
 |n+1,k,hk,h=>by
  show Kv N (YT N n) s f set k=_;unfold Kv;have e:((f:Int)+(k:Int))=((f+k:Nat):Int):=oM
  rw[e,zh oM oM,za,zb];by_cases j:f+k<s.length
  ·rw[if_pos oM,za,jB j,za,zP,zcn,zc,jq j,yf];cases hc:set.contains (s.getD (f+k) 0)
   ·simp
   ·simp only[cond_true,if_true];have H:((k:Int)+1)=((k+1:Nat):Int):=oM
    rw[H,zh oM oM,za,zc3 N s set f B n (k+1) oM oM];congr 2;rw[show f+(k+1)=f+k+1 by omega];omega
  ·rw[if_neg oM,List.drop_eq_nil_of_le oM];rfl
theorem Qc{N:Nat}{s set:uAU}{f:Nat}(j:s.length<=4611686018427387904)(H:s.length<N)(B:f<=s.length):jn N s (f:Int) set=some ((cnt set (s.drop f):Nat):Int):=by unfold jn;have:=zc3 N s set f j N 0 oM oM;simpa using this
def syms:uAU:=[65,88,57,83,86,80,90,42,43,45,46,44,36,66,48,47,67,82,68]
def digs:uAU:=[48,49,50,51,52,53,54,55,56,57]
def valP(a:Nat)(l:uAU):Nat:=l.foldl (fun a c=>a*10+(c.toNat-48)) a
theorem zit(c:UInt8):digs.contains c=true↔48<=c.toNat/\c.toNat<=57:=by unfold digs;simp only[List.contains_cons,List.contains_nil,Bool.or_false,nO,beq_iff_eq];rw[<-UInt8.toNat_inj,<-UInt8.toNat_inj,<-UInt8.toNat_inj,<-UInt8.toNat_inj,<-UInt8.toNat_inj,<-UInt8.toNat_inj,<-UInt8.toNat_inj,<-UInt8.toNat_inj,<-UInt8.toNat_inj,<-UInt8.toNat_inj];simp only[UInt8.reduceToNat];omega
theorem zeX:∀(l:uAU)(a:Nat),(∀c∈l,digs.contains c=true)->Lib.decFrom a l=some (valP a l)
 |[],a,_=>rfl
 |c::l,a,h=>by
  have j:=(zit c).1 (h c sI);have B:=zeX l (a*10+(c.toNat-48)) (fun x H=>h x (by simp[H]));unfold Lib.decFrom;have:Lib.digitVal c=some (c.toNat-48):=by unfold Lib.digitVal;rw[if_pos j]
  rw[this];exact B
theorem zy2{l:uAU}(h:∀c∈l,digs.contains c=true)(B:l≠[]):Lib.atoi l=some ((valP 0 l:Nat):Int):=by
 cases l with
 |nil=>exact absurd rfl B
 |cons b r=>
  have I:=(zit b).1 (h b sI);have j:(b==45)=false:=by rw[beq_eq_false_iff_ne];intro e;subst e;simp at I
  have H:(b==43)=false:=by rw[beq_eq_false_iff_ne];intro e;subst e;simp at I
  unfold Lib.atoi;have:=zeX (b::r) 0 h;simp only[j,H,nA,if_false,Lib.decNat,List.isEmpty_cons,this];rfl
theorem zk3:∀(l:uAU)(a:Nat),(∀c∈l,digs.contains c=true)->valP a l<(a+1)*10^l.length
 |[],a,_=>by simp[valP]
 |c::l,a,h=>by have H:=(zit c).1 (h c sI);have j:=zk3 l (a*10+(c.toNat-48)) (fun x B=>h x (by simp[B]));show valP (a*10+(c.toNat-48)) l<_;refine Nat.lt_of_lt_of_le j ?_;rw[mM,Nat.pow_succ',<-Nat.mul_assoc];exact nC _ oM
theorem XQ(set:uAU)(s:uAU):∀k,k<=cnt set s->∀c∈s.take k,set.contains c=true:=by
 induction s with
 |nil=>intro k _ c hc;simp at hc
 |cons x s j=>
  intro k hk c hc;rw[yf]at hk;cases k with
  |zero=>simp at hc
  |succ k=>
   split at hk
   ·rename_i B;simp only[uAe,nB]at hc;rcases hc with rfl|hc
    ·exact B
    ·exact j k oM c hc
   ·omega
def rep(t:uAU):Option (Nat×Nat):=if t.getD 0 0=40 then if 1<=cnt digs (t.drop 1)/\cnt digs (t.drop 1)<=5/\t.getD (cnt digs (t.drop 1)+1) 0=41/\valP 0 ((t.drop 1).take (cnt digs (t.drop 1)))≠0 then some (valP 0 ((t.drop 1).take (cnt digs (t.drop 1))),cnt digs (t.drop 1)+2)else none else some (1,0)
theorem zwO{t:uAU}{m z:Nat}(h:rep t=some (m,z)):m<=99999/\1<=m/\z<=t.length/\z<=7:=by
 unfold rep at h;split at h
 ·split at h
  ·rename_i I j;cases h;obtain⟨a,b,c,d⟩:=j;have hv:=zk3 ((t.drop 1).take (cnt digs (t.drop 1))) 0 (XQ digs _ _ (mH _));have B:((t.drop 1).take (cnt digs (t.drop 1))).length<=5:=by rw[mI];omega
   have hp:10^((t.drop 1).take (cnt digs (t.drop 1))).length<=10^5:=Nat.pow_le_pow_right oM B;have H:cnt digs (t.drop 1)+1<t.length:=by
    rcases Nat.lt_or_ge (cnt digs (t.drop 1)+1) t.length with h|h
    ·exact h
    ·rw[mN,uAo h]at c;cases c
   refine⟨?_,oM,oM,oM⟩;have:(10:Nat)^5=100000:=rfl;omega
  ·cases h
 ·cases h;omega
theorem zoX(t:uAU):Lib.hasPrefix t [40]=decide (t.getD 0 0=40):=by
 unfold Lib.hasPrefix;cases t with
 |nil=>rfl
 |cons c t=>simp only[List.isPrefixOf,Bool.and_true,List.getD_cons_zero];rw[Bool.eq_iff_iff];simp only[beq_iff_eq,decide_eq_true_eq];exact eq_comm
theorem zsT(l:uAU)(a b:Nat):Vc.sub l (a:Int) (b:Int)=(l.take b).drop a:=by simp[Vc.sub]
theorem zqL{N:Nat}{t:uAU}(ht:t.length<=1000)(hN:1000<N):∃a b,zcd N t=some (a,b,(rep t).isSome)/\∀m z,rep t=some (m,z)->a=(m:Int)/\b=(z:Int):=by
 unfold zcd zbp;rw[zc,zoX,zj];by_cases B:t.getD 0 0=40
 ·rw[if_pos B];have I:1<=t.length:=by
   cases t with
   |nil=>cases B
   |cons _ _=>simp
  have hc:=Qc (N:=N) (s:=t) (set:=digs) (f:=1) oM oM I;have Y:jn N t 1 [48,49,50,51,52,53,54,55,56,57]=some ((cnt digs (t.drop 1):Nat):Int):=hc;rw[show of_ N [48,49,50,51,52,53,54,55,56,57]=some [48,49,50,51,52,53,54,55,56,57]from rfl,zc,Y,zc];have H:=QD digs (t.drop 1);rw[mP]at H;unfold rep;rw[if_pos B];generalize hd:cnt digs (t.drop 1)=d at H;rw[zb];by_cases h1:d<1
  ·rw[if_pos oM,if_neg oM];exact⟨_,_,rfl,fun _ _ h=>by cases h⟩
  ·rw[if_neg oM,zb];by_cases h2:5<d
   ·rw[if_pos oM,if_neg oM];exact⟨_,_,rfl,fun _ _ h=>by cases h⟩
   ·have Z:((d:Int)+1)=((d+1:Nat):Int):=oM
    have e2:((d:Int)+2)=((d+2:Nat):Int):=oM
    rw[if_neg oM,Z,zh oM oM,za,zb];by_cases h3:t.length<=d+1
    ·have:t.getD (d+1) 0=0:=by rw[mN,uAo h3];rfl
     rw[if_pos oM,if_neg (by rw[this];intro⟨_,_,h,_⟩;cases h)];exact⟨_,_,rfl,fun _ _ h=>by cases h⟩
    ·rw[if_neg oM,za,jB oM,za,zj,zP];by_cases J:t.getD (d+1) 0=41
     ·have hs:Vc.sub t 1 ((d+1:Nat):Int)=(t.drop 1).take d:=by rw[show((1:Int))=((1:Nat):Int)from rfl,zsT,List.take_drop];congr 1;rw[nZ]
      have j:∀c∈(t.drop 1).take d,digs.contains c=true:=XQ digs _ _ oM;have O:(t.drop 1).take d≠[]:=by intro e;have:=congrArg List.length e;rw[mI,mP]at this;simp at this;omega
      have U:ztP ((t.drop 1).take d)=some ((valP 0 ((t.drop 1).take d):Nat):Int):=by unfold ztP;rw[decide_eq_true (by rw[mI];omega),za];exact zy2 j O
      have hv:=zk3 _ 0 j;rw[if_pos (by rw[J];rfl),zt.2 ⟨oM,oM,oM⟩,za,hs,U,zc,e2,zh oM oM,za];by_cases S:valP 0 ((t.drop 1).take d)=0
      ·rw[if_neg (by rw[S];intro⟨_,_,_,h⟩;exact h rfl),S];exact⟨_,_,rfl,fun _ _ h=>by cases h⟩
      ·rw[if_pos ⟨oM,oM,J,S⟩];exact⟨_,_,by rw[decide_eq_true oM];rfl,fun _ _ h=>by cases h;exact⟨rfl,rfl⟩⟩
     ·rw[if_neg (fun e=>J (UInt8.toNat_inj.1 (by
       have:(t.getD (d+1) 0).toNat=41:=oM
       simpa using this))),if_neg (fun⟨_,_,h,_⟩=>J h)]
      exact⟨_,_,rfl,fun _ _ h=>by cases h⟩
 ·rw[if_neg B];refine⟨1,0,?_,fun m z h=>?_⟩
  ·unfold rep;rw[if_neg B];rfl
  ·unfold rep at h;rw[if_neg B]at h;cases h;exact⟨rfl,rfl⟩
def items:uAU->Option (List (UInt8×Nat))
 |[]=>some []
 |c::r=>if syms.contains c=true then match rep r with
   |some (m,z)=>(items (r.drop z)).map ((c,m):: ·)
   |none=>none
  else none
termination_by s=>s.length
decreasing_by simp;omega
def tot:List (UInt8×Nat)->Nat
 |[]=>0
 |(_,m)::l=>m+tot l
def flat:List (UInt8×Nat)->uAU
 |[]=>[]
 |(c,m)::l=>List.replicate m c++flat l
def exR(all:Nat)(out:uAU):Option (List (UInt8×Nat))->uAU×Int
 |none=>([],4)
 |some l=>if all+tot l=0 then([],4)else if 256<all+tot l then([],3)else(out++flat l,0)
theorem zcR{all m:Nat}{c:UInt8}{out j:uAU}(x:Option (List (UInt8×Nat)))(I:1<=m)(h:all+m<=256->j=out++List.replicate m c):
  exR (all+m) j x=exR all out (x.map ((c,m):: ·)):=by
 cases x with
 |none=>rfl
 |some l=>
  have e:tot ((c,m)::l)=m+tot l:=rfl;have H:flat ((c,m)::l)=List.replicate m c++flat l:=rfl;show(if all+m+tot l=0 then([],4)else if 256<all+m+tot l then([],3)else(j++flat l,0))=
   (if all+tot ((c,m)::l)=0 then(([]:uAU),(4:Int))else if 256<all+tot ((c,m)::l)then([],3)else(out++flat ((c,m)::l),0))
  by_cases B:256<all+m+tot l
  ·rw[if_neg (show¬(all+m+tot l=0)by omega),if_neg (show¬(all+tot ((c,m)::l)=0)by omega),if_pos B,if_pos (show 256<all+tot ((c,m)::l)by omega)]
  ·rw[if_neg (show¬(all+m+tot l=0)by omega),if_neg (show¬(all+tot ((c,m)::l)=0)by omega),if_neg B,if_neg (show¬(256<all+tot ((c,m)::l))by omega),h oM,mR,H]
theorem zjf(s:uAU)(i:Nat):toByte (byteAt s (i:Int))=s.getD i 0:=by unfold toByte;rw[zP];simp
theorem zex(c:UInt8):∀m,Lib.repeatL [c] m=List.replicate m c
 |0=>rfl
 |m+1=>by rw[Lib.repeatL,zex c m,List.replicate_succ];rfl
theorem Zn{n:Nat}(h:n<=1000000):je 1 n=true:=by unfold je;rw[mF];exact⟨mY oM,mY oM⟩
theorem Vx(c:UInt8){m:Nat}(j:m<=100000):j9 [c] (m:Int)=some (List.replicate m c):=by unfold j9;rw[decide_eq_true oM,decide_eq_true oM,decide_eq_true (by simp;omega)];simp only[nY,za,mV,zex]
theorem zkV{N:Nat}{s:uAU}(h:s.length<=1000000):∃q,XJ N s=some (q,s):=by unfold XJ;rw[Zn (by simpa using h),za];exact⟨_,rfl⟩
theorem zns{N:Nat}{s l:uAU}(h:l.length+s.length<=1000000):∃q,Wr N s l=some (q,l++s):=by unfold Wr;rw[Zn (by simpa using h),za];exact⟨_,rfl⟩
theorem zm4{s:uAU}{i:Nat}{c:UInt8}{r:uAU}(h:s.drop i=c::r):i<s.length/\s.getD i 0=c/\s.drop (i+1)=r:=by
 have j:i<s.length:=by
  rcases Nat.lt_or_ge i s.length with h'|h'
  ·exact h'
  ·rw[List.drop_eq_nil_of_le h']at h;cases h
 rw[jq j]at h;cases h;exact⟨j,rfl,rfl⟩
theorem zbs(c:UInt8)(r:uAU):items (c::r)=if syms.contains c=true then match rep r with
   |some (m,z)=>(items (r.drop z)).map ((c,m):: ·)
   |none=>none
  else none:=by
 by_cases h:syms.contains c=true
 ·rw[items];all_goals simp only[if_pos h]
  all_goals (rcases rep r with _|⟨m,z⟩<;>rfl)
 ·rw[items];all_goals simp only[if_neg h]
theorem zB1(all:Nat)(out:uAU):exR all out (items [])=if all=0 then([],4)else if 256<all then([],3)else(out,0):=by rw[items];simp[exR,tot,flat]
theorem Jq{N:Nat}(hN:1000<N)(s:uAU)(hs:s.length<=400):∀(n i all:Nat)(out:uAU),i<=s.length->s.length-i<n->all<=99999*i->out.length<=256->(all<=256->out.length=all)->
  yy N n (.inr (s,(all:Int),(i:Int),out))=some (exR all out (items (s.drop i)))/\(out=[]->yy N n (.inl (s,(all:Int),(i:Int)))=some (exR all out (items (s.drop i))))
 |0,i,all,out,_,h,_,_,_=>oM
 |n+1,i,all,out,hi,h,hall,ho,hoa=>by
  have step:∀(go:uAU×Int×Int×uAU->Option (uAU×Int))(go':uAU×Int×Int->Option (uAU×Int)),True:=fun _ _=>trivial
  rcases hd:s.drop i with _|⟨c,r⟩
  ·have hge:s.length<=i:=by have:=congrArg List.length hd;simp at this;omega
   rw[zB1];refine⟨?_,fun J=>?_⟩
   ·show Zy N (yy N n) s all i out=_;unfold Zy;rw[zb,if_neg oM,zb];by_cases h0:all=0
    ·rw[if_pos oM,if_pos h0]
    ·rw[if_neg oM,if_neg h0,zb];by_cases S:256<all
     ·rw[if_pos oM,if_pos S]
     ·rw[if_neg oM,if_neg S];unfold Vu;rw[decide_eq_true oM,za,zc]
   ·subst J;show Zz N (yy N n) s all i=_;unfold Zz;rw[zb,if_neg oM,zb];by_cases h0:all=0
    ·rw[if_pos oM,if_pos h0]
    ·rw[if_neg oM,if_neg h0,zb];by_cases S:256<all
     ·rw[if_pos oM,if_pos S]
     ·rw[if_neg oM,if_neg S]
  ·obtain⟨Z,hc,hr⟩:=zm4 hd;have hrl:r.length=s.length-(i+1):=by rw[<-hr,mP]
   obtain⟨a,b,H,hab⟩:=zqL (N:=N) (t:=r) oM hN;have e1:((i:Int)+1)=((i+1:Nat):Int):=oM
   have j:zO s ((i+1:Nat):Int)=r:=by unfold zO;simpa using hr
   have hin:∀set:uAU,(bnd (of_ N set) fun rr=>zlX N (byteAt s (i:Int)) rr)=some (set.contains c):=by intro set;unfold of_;rw[zc,zP,hc,zcn]
   have hof:∀set:uAU,zlX N (byteAt s (i:Int)) set=some (set.contains c):=by intro set;rw[zP,hc,zcn]
   have B:inKb .u8 (byteAt s (i:Int))=true:=by rw[zP];have:=(s.getD i 0).toNat_lt;exact yq.2 ⟨by show(0:Int)<=_;omega,by show _<=(255:Int);omega⟩
   have htb:[byteAt s (i:Int)].map toByte=[c]:=by rw[uAh,List.map_nil,zjf,hc]
   rw[zbs];refine⟨?_,fun J=>?_⟩
   ·show Zy N (yy N n) s all i out=_;unfold Zy;rw[zb,if_pos oM,jB Z,za,e1,zh oM oM,za,zt.2 ⟨oM,oM,oM⟩,za,j,H,zc];cases hro:rep r with
    |none=>simp only[Option.isSome_none,uAS,cond_true];split<;>rfl
    |some x=>
     obtain⟨m,z⟩:=x;obtain⟨rfl,rfl⟩:=hab m z hro;obtain⟨m1,Y,m3,m4⟩:=zwO hro;simp only[Option.isSome_some,uAf,cond_false];have I:of_ N [65,88,57,83,86,80,90,42,43,45,46,44,36,66,48,47,67,82,68]=some syms:=rfl;rw[I,zc,hof,zc];cases hsc:syms.contains c with
     |false=>rfl
     |true=>
      simp only[uAf,cond_false,if_true];have e2:((all:Int)+(m:Int))=((all+m:Nat):Int):=oM
      have e3:((1:Int)+(z:Int))=((1+z:Nat):Int):=oM
      have e4:((i:Int)+((1+z:Nat):Int))=((i+1+z:Nat):Int):=oM
      have O:r.drop z=s.drop (i+1+z):=by rw[<-hr,mZ]
      rw[e2,zh oM oM,za,zb,O];by_cases hle:all+m<=256
      ·rw[if_pos oM,B,Bool.and_true,za,htb,Vx c oM,zc];have U:=hoa oM;obtain⟨q,hq⟩:=zns (N:=N) (s:=List.replicate m c) (l:=out) (by rw[mK];omega);rw[hq,zc,e3,zh oM oM,za,e4,zh oM oM,za];have:=(Jq hN s hs n (i+1+z) (all+m) (out++List.replicate m c) oM oM oM (by simp;omega) (fun _=>by simp;omega)).1;rw[this,zcR _ Y (fun _=>rfl)]
      ·rw[if_neg oM,e3,zh oM oM,za,e4,zh oM oM,za];have:=(Jq hN s hs n (i+1+z) (all+m) out oM oM oM ho (fun h=>oM)).1;rw[this,zcR (c:=c) _ Y (fun h=>oM)]
   ·subst J;show Zz N (yy N n) s all i=_;unfold Zz;rw[zb,if_pos oM,jB Z,za,e1,zh oM oM,za,zt.2 ⟨oM,oM,oM⟩,za,j,H,zc];cases hro:rep r with
    |none=>simp only[Option.isSome_none,uAS,cond_true];split<;>rfl
    |some x=>
     obtain⟨m,z⟩:=x;obtain⟨rfl,rfl⟩:=hab m z hro;obtain⟨m1,Y,m3,m4⟩:=zwO hro;simp only[Option.isSome_some,uAf,cond_false];have I:of_ N [65,88,57,83,86,80,90,42,43,45,46,44,36,66,48,47,67,82,68]=some syms:=rfl;rw[I,zc,hof,zc];cases hsc:syms.contains c with
     |false=>rfl
     |true=>
      simp only[uAf,cond_false,if_true];have e2:((all:Int)+(m:Int))=((all+m:Nat):Int):=oM
      have e3:((1:Int)+(z:Int))=((1+z:Nat):Int):=oM
      have e4:((i:Int)+((1+z:Nat):Int))=((i+1+z:Nat):Int):=oM
      have O:r.drop z=s.drop (i+1+z):=by rw[<-hr,mZ]
      rw[e2,zh oM oM,za,zb,O];by_cases hle:all+m<=256
      ·rw[if_pos oM,B,Bool.and_true,za,htb,Vx c oM,zc];have U:=hoa oM;obtain⟨q,hq⟩:=zkV (N:=N) (s:=List.replicate m c) (by rw[mK];omega);rw[hq,zc,e3,zh oM oM,za,e4,zh oM oM,za];have:=(Jq hN s hs n (i+1+z) (all+m) (List.replicate m c) oM oM oM (by simp;omega) (fun _=>by simp at U⊢;omega)).1;rw[this,zcR (c:=c) (out:=[]) _ Y (fun _=>sI)]
      ·rw[if_neg oM,e3,zh oM oM,za,e4,zh oM oM,za];have:=(Jq hN s hs n (i+1+z) (all+m) [] oM oM oM ho (fun h=>oM)).2 rfl;rw[this,zcR (c:=c) _ Y (fun h=>oM)]
theorem zsA{N:Nat}(B:1000<N){s:uAU}(j:s.length<=400):znn N s=some (exR 0 [] (items s)):=by unfold znn;have:=(Jq B s j N 0 0 [] oM oM oM sI (fun _=>rfl)).2 rfl;simpa using this
theorem zgV{n:Int}(j:0<=n)(B:n<=255):IntKind.wrap .u8 n=n:=zbT ⟨j,B⟩
theorem zd6(s:uAU)(n:Nat):zO s (n:Int)=s.drop n:=rfl
def zco(r:uAU):Option (Nat×Int):=
 if 1<cnt [86] r then none
 else if cnt [57] (r.drop (cnt [86] r+cnt [80] (r.drop (cnt [86] r))))=0 then none
 else if 0<cnt [80] (r.drop (cnt [86] r))then
  if cnt [86] r+cnt [80] (r.drop (cnt [86] r))+cnt [57] (r.drop (cnt [86] r+cnt [80] (r.drop (cnt [86] r))))=r.length then
   some (cnt [57] (r.drop (cnt [86] r+cnt [80] (r.drop (cnt [86] r)))),((cnt [57] (r.drop (cnt [86] r+cnt [80] (r.drop (cnt [86] r))))+cnt [80] (r.drop (cnt [86] r)):Nat):Int))else none
 else if 0<cnt [86] r then
  if cnt [86] r+cnt [57] (r.drop (cnt [86] r))=r.length then some (cnt [57] (r.drop (cnt [86] r)),((cnt [57] (r.drop (cnt [86] r)):Nat):Int))else none
 else
  let c:=cnt [57] r;let k:=cnt [80] (r.drop c)
  if 0<k then
   if c+k=r.length\/r.drop (c+k)=[86]then some (c,-(k:Int))else none
  else if c=r.length then some (c,0)
  else if r.getD c 0=86 then
   if c+1+cnt [57] (r.drop (c+1))=r.length then some (c+cnt [57] (r.drop (c+1)),((cnt [57] (r.drop (c+1)):Nat):Int))else none
  else none
def yd(p:uAU)(sg:Bool)(d:Nat)(sc:Int):Shape:=Shape.mk 4 0 p d sc sg false false false false d
def unS(p:uAU):uAU:=if p.getD 0 0=83 then p.drop 1 else p
def sgS(p:uAU):Bool:=decide (p.getD 0 0=83)
abbrev rp(n:Nat)(c:UInt8):uAU:=List.replicate n c
theorem Qf(c:UInt8)(t:uAU):∀n,cnt [c] (rp n c++t)=n+cnt [c] t
 |0=>by simp[rp]
 |n+1=>by have:=Qf c t n;rw[rp,List.replicate_succ,uAu,yf,if_pos sI,this];omega
theorem yR{c x:UInt8}(h:c≠x)(t:uAU){n:Nat}(j:1<=n):cnt [x] (rp n c++t)=0:=by
 obtain⟨m,rfl⟩:∃m,n=m+1:=⟨n-1,oM⟩
 rw[rp,List.replicate_succ,uAu,yf,if_neg (by simpa using h)]
theorem V9{c x:UInt8}(h:c≠x)(t:uAU):cnt [x] (c::t)=0:=by rw[yf,if_neg (by simpa using h)]
theorem yS(c:UInt8)(n:Nat):cnt [c] (rp n c)=n:=by have:=Qf c [] n;simpa[zt3]using this
theorem VZ{c x:UInt8}(h:c≠x)(n:Nat):cnt [x] (rp n c)=0:=by
 cases n with
 |zero=>rfl
 |succ n=>have:=yR h [] (n:=n+1) oM;simpa using this
theorem Xq(c:UInt8)(t:uAU)(n:Nat):(rp n c++t).drop n=t:=by rw[nT sI,List.drop_eq_nil_of_le sI];rfl
theorem zd4(c:UInt8)(t:uAU)(n m:Nat):(rp n c++t).drop (n+m)=t.drop m:=by rw[<-mZ,Xq]
theorem zvJ(c:UInt8)(n:Nat):(rp n c).drop n=[]:=List.drop_eq_nil_of_le sI
theorem J6(c:UInt8):∀s:uAU,s=rp (cnt [c] s) c++s.drop (cnt [c] s)
 |[]=>rfl
 |x::s=>by
  by_cases h:x=c
  ·subst h;rw[yf,if_pos sI,List.drop_succ_cons,rp,List.replicate_succ,uAu,<-J6 x s]
  ·rw[V9 h];rfl
theorem zgN{c:UInt8}{s:uAU}:cnt [c] s=s.length↔s=rp s.length c:=by
 constructor
 ·intro h;have:=J6 c s;rw[h,List.drop_length,nM]at this;exact this
 ·intro h;rw[h,yS];simp
theorem Wa{c:UInt8}{s:uAU}(h:cnt [c] s=s.length):∃n,s=rp n c:=⟨_,zgN.1 h⟩
def zp5(r:uAU)(d:Nat)(sc:Int):Prop:=(∃c f,1<=c/\r=rp c 57++(86::rp f 57)/\d=c+f/\sc=(f:Int))\/(∃a b c,a<=1/\1<=c/\r=rp a 86++(rp b 80++rp c 57)/\d=c/\sc=(if a=0/\b=0 then(0:Int)else((c+b:Nat):Int)))\/(∃c k e,1<=c/\1<=k/\e<=1/\r=rp c 57++(rp k 80++rp e 86)/\d=c/\sc= -(k:Int))
theorem zvq{r:uAU}{d:Nat}{sc:Int}(h:zp5 r d sc):zco r=some (d,sc):=by
 rcases h with⟨c,f,hc,rfl,rfl,rfl⟩|⟨a,b,c,ha,hc,rfl,hd,rfl⟩|⟨c,k,e,hc,hk,he,rfl,hd,rfl⟩
 ·have B:cnt [86] (rp c 57++(86::rp f 57))=0:=yR dE _ hc;have H:cnt [80] (rp c 57++(86::rp f 57))=0:=yR dE _ hc;have J:cnt [57] (rp c 57++(86::rp f 57))=c:=by rw[Qf,V9 dE];rfl
  have I:cnt [80] ((86:UInt8)::rp f 57)=0:=V9 dE _;unfold zco;simp only[B,nS,H,uAa,J,Xq,I];have j:(rp c 57++((86:UInt8)::rp f 57)).length=c+(f+1):=sI
  have S:(rp c 57++((86:UInt8)::rp f 57)).getD c 0=86:=by rw[mN,nJ sI];simp
  have O:(rp c 57++((86:UInt8)::rp f 57)).drop (c+1)=rp f 57:=by rw[zd4];rfl
  rw[if_neg oM,if_neg oM,if_neg oM,if_neg oM,if_neg oM,if_neg (by rw[j];omega),if_pos S,O,yS,if_pos (by rw[j];omega)]
 ·obtain rfl:c=d:=hd.symm;have B:cnt [86] (rp a 86++(rp b 80++rp c 57))=a:=by
   rw[Qf];by_cases Y:b=0
   ·subst Y;have:=VZ (c:=57) (x:=86) dE c;simp only[rp,List.replicate_zero,uAH]at*;omega
   ·rw[yR dE _ oM];rfl
  have H:cnt [80] (rp b 80++rp c 57)=b:=by rw[Qf,VZ dE];rfl
  have j:(rp a 86++(rp b 80++rp c 57)).length=a+(b+c):=sI
  have S:(rp a 86++(rp b 80++rp c 57)).drop (a+b)=rp c 57:=by rw[zd4,Xq]
  unfold zco;simp only[B,Xq,H,S,yS,j];rw[if_neg oM,if_neg oM];by_cases Y:0<b
  ·rw[if_pos Y,if_pos oM,if_neg oM]
  ·have Z:b=0:=oM
   subst Z;rw[if_neg oM];have J:(rp 0 80++rp c 57:uAU)=rp c 57:=rfl;by_cases ha1:0<a
   ·rw[if_pos ha1,J,yS,if_pos oM,if_neg oM];rfl
   ·have U:a=0:=oM
    subst U;rw[if_neg oM];have I:(rp 0 86++(rp 0 80++rp c 57):uAU)=rp c 57:=rfl;simp only[I,yS,zvJ,zt3];rw[if_neg oM,if_pos oM,if_pos sI]
 ·obtain rfl:c=d:=hd.symm;have B:cnt [86] (rp c 57++(rp k 80++rp e 86))=0:=yR dE _ hc;have H:cnt [80] (rp c 57++(rp k 80++rp e 86))=0:=yR dE _ hc;have J:cnt [57] (rp c 57++(rp k 80++rp e 86))=c:=by rw[Qf,yR dE _ hk];rfl
  have I:cnt [80] (rp k 80++rp e 86)=k:=by rw[Qf,VZ dE];rfl
  have j:(rp c 57++(rp k 80++rp e 86)).length=c+(k+e):=sI
  have O:(rp c 57++(rp k 80++rp e 86)).drop (c+k)=rp e 86:=by rw[zd4,Xq]
  unfold zco;simp only[B,nS,H,uAa,J,Xq,I,j,O];rw[if_neg oM,if_neg oM,if_neg oM,if_neg oM,if_pos oM,if_pos];by_cases h:e=0
  ·left;omega
  ·right;rw[show e=1 by omega];rfl
theorem numS_form{r:uAU}{d:Nat}{sc:Int}(h:zco r=some (d,sc)):zp5 r d sc:=by
 unfold zco at h;have s1:=J6 86 r;generalize cnt [86] r=a at*
 generalize hr1:r.drop a=r1 at*
 have U:=J6 80 r1;have d2:r.drop (a+cnt [80] r1)=r1.drop (cnt [80] r1):=by rw[<-hr1,mZ]
 rw[d2]at h;have hl:=congrArg List.length s1;rw[mO,mK]at hl;have hb:=QD [80] r1;split at h
 ·cases h
 ·rename_i h1;split at h
  ·cases h
  ·rename_i h2;split at h
   ·rename_i h3;split at h
    ·rename_i Y;cases h;refine .inr (.inl ⟨a,cnt [80] r1,cnt [57] (r1.drop (cnt [80] r1)),oM,oM,?_,rfl,by rw[if_neg oM]⟩);have H:cnt [57] (r1.drop (cnt [80] r1))=(r1.drop (cnt [80] r1)).length:=by rw[mP];omega
     rw[zgN.1 H]at U;rw[U]at s1;rw[H];exact s1
    ·cases h
   ·rename_i h3;have O:cnt [80] r1=0:=oM
    rw[O,nS]at h2;split at h
    ·split at h
     ·rename_i Y H;cases h;have j:cnt [57] r1=r1.length:=oM
      refine .inr (.inl ⟨a,0,cnt [57] r1,oM,oM,?_,rfl,by rw[if_neg oM];rfl⟩);rw[zgN.1 j]at s1;rw[j];exact s1
     ·cases h
    ·rename_i Y;have S:a=0:=oM
     subst S;rw[nS]at hr1;subst hr1;have B:=J6 57 r;have hc:=QD [57] r;simp only[]at h;have I:=J6 80 (r.drop (cnt [57] r));have hk:=QD [80] (r.drop (cnt [57] r));rw[mP]at hk;rw[mZ]at I;generalize cnt [57] r=c at*
     generalize cnt [80] (r.drop c)=k at*
     split at h
     ·rename_i H;split at h
      ·rename_i j;cases h;rcases j with j|j
       ·refine .inr (.inr ⟨d,k,0,oM,oM,oM,?_,rfl,rfl⟩);rw[List.drop_eq_nil_of_le (show r.length<=d+k by omega),nM]at I;rw[I]at B;simpa using B
       ·refine .inr (.inr ⟨d,k,1,oM,oM,oM,?_,rfl,rfl⟩);rw[j]at I;rw[I]at B;exact B
      ·cases h
     ·split at h
      ·rename_i H j;cases h;refine .inr (.inl ⟨0,0,d,oM,oM,?_,rfl,sI⟩);rw[List.drop_eq_nil_of_le (show r.length<=d by omega),nM]at B;exact B
      ·split at h
       ·split at h
        ·rename_i H j h7 h8;cases h;have J:c<r.length:=oM
         refine .inl ⟨c,cnt [57] (r.drop (c+1)),oM,?_,rfl,rfl⟩;have Z:cnt [57] (r.drop (c+1))=(r.drop (c+1)).length:=by rw[mP];omega
         rw[jq J,h7,zgN.1 Z]at B;rw[Z];exact B
        ·cases h
       ·cases h
def zdM(r:uAU):Option (Nat×Int):=if r.count 57=0\/1<r.count 86 then none else if r.count 80=0 then if cnt [57] (Lib.cut r [86]).1=(Lib.cut r [86]).1.length/\cnt [57] (Lib.cut r [86]).2.1=(Lib.cut r [86]).2.1.length then some (r.count 57,(((Lib.cut r [86]).2.1.length:Nat):Int))else none else if cnt [57] (Lib.trimLeftS r [86,80])=(Lib.trimLeftS r [86,80]).length/\((Lib.cut r [86]).2.2=false\/r.getD 0 0=86)then some (r.count 57,((r.count 57+r.count 80:Nat):Int))else if cnt [57] (Lib.trimRightS (Lib.trimSuffix r [86]) [80])=(Lib.trimRightS (Lib.trimSuffix r [86]) [80]).length then some (r.count 57,-((r.count 80:Nat):Int))else none
theorem JL{N:Nat}{s:uAU}(j:s.length<=400)(B:1000<N):Yp N s=some (decide (cnt [57] s=s.length)):=by unfold Yp;have:=Qc (N:=N) (s:=s) (set:=[57]) (f:=0) oM oM oM;rw[show of_ N [57]=some [57]from rfl,zc];rw[show jn N s 0 [57]=some ((cnt [57] s:Nat):Int)from this,zc];congr 1;rw[Bool.eq_iff_iff];simp only[decide_eq_true_eq];omega
theorem zrA(t:uAU)(c:UInt8)(hc:c≠0):Lib.hasPrefix t [c]=decide (t.getD 0 0=c):=by
 unfold Lib.hasPrefix;cases t with
 |nil=>simp[hc.symm]
 |cons x t=>simp only[List.isPrefixOf,Bool.and_true,List.getD_cons_zero];rw[Bool.eq_iff_iff];simp only[beq_iff_eq,decide_eq_true_eq];exact eq_comm
theorem zDI(r:uAU)(c:UInt8)(j:Nat):Lib.occAt r [c] j=true↔r[j]? =some c:=by
 unfold Lib.occAt;rcases h:r.drop j with _|⟨x,t⟩
 ·have:r[j]? =none:=by have:=congrArg List.length h;simp at this;exact uAo oM
  simp[this,List.isPrefixOf]
 ·have:r[j]? =some x:=by
   have B:(r.drop j)[0]? =some x:=by rw[h];rfl
   rw[nI]at B;simpa using B
  rw[this];simp[List.isPrefixOf];exact eq_comm
theorem cut1(r:uAU)(c:UInt8):(Lib.cut r [c]=(r,[],false)/\r.count c=0)\/
  ∃i,i<r.length/\r.getD i 0=c/\Lib.cut r [c]=(r.take i,r.drop (i+1),true)/\(r.take i).count c=0:=by
 unfold Lib.cut;rcases Lib.index_spec r [c]with⟨H,U⟩|⟨i,H,U,Y,Z⟩
 ·left;rw[H,if_neg oM];refine⟨rfl,List.count_eq_zero.2 fun I=>?_⟩;obtain⟨j,S,B⟩:=List.mem_iff_getElem.1 I;have:=U j oM;rw[<-Bool.not_eq_true,zDI]at this;exact this (by rw[mJ S,B])
 ·right;have J:=(zDI r c i).1 Y;have O:i<r.length:=by
   rcases Nat.lt_or_ge i r.length with h|h
   ·exact h
   ·rw[uAo h]at J;cases J
  refine⟨i,O,by rw[mN,J];rfl,by rw[H,if_pos oM];rfl,List.count_eq_zero.2 fun I=>?_⟩;obtain⟨j,S,B⟩:=List.mem_iff_getElem.1 I;rw[mI]at S;have:=Z j oM;rw[<-Bool.not_eq_true,zDI]at this;rw[List.getElem_take]at B;exact this (by rw[mJ oM,B])
theorem zaD{N:Nat}(J:1000<N){r:uAU}(O:r.length<=400)(S:Shape)(p:uAU)(sg:Bool)(t:Bool)(ht:t=decide (r.count 57=0\/1<r.count 86)):
  ∃sh,Yo N r (Lib.cut r [86]).1 (Lib.cut r [86]).2.1 (Lib.cut r [86]).2.2 ((r.count 80:Nat):Int) (Lib.trimLeftS r [86,80]) t S (Shape.mk 4 0 p ((r.count 57:Nat):Int) 0 sg false false false false ((r.count 57:Nat):Int))=some (sh,(zdM r).isSome)/\∀d sc,zdM r=some (d,sc)->sh=yd p sg d sc:=by
 have c57:=List.count_le_length (a:=(57:UInt8)) (l:=r);have c80:=List.count_le_length (a:=(80:UInt8)) (l:=r);have lw:(Lib.cut r [86]).1.length<=400/\(Lib.cut r [86]).2.1.length<=400:=by
  rcases cut1 r 86 with⟨h,_⟩|⟨i,_,_,h,_⟩
  ·rw[h];exact⟨O,sI⟩
  ·rw[h];simp only[mI,mP];omega
 have lt:(Lib.trimLeftS r [86,80]).length<=400:=by unfold Lib.trimLeftS;exact nD (List.Sublist.length_le (List.dropWhile_sublist _)) O
 have U:(Lib.trimSuffix r [86]).length<=400:=by
  unfold Lib.trimSuffix;split
  ·rw[mI];omega
  ·exact O
 have ltr:(Lib.trimRightS (Lib.trimSuffix r [86]) [80]).length<=400:=by unfold Lib.trimRightS;rw[List.length_reverse];refine nD (List.Sublist.length_le (List.dropWhile_sublist _)) ?_;rw[List.length_reverse];exact U
 subst ht;unfold Yo zdM;rw[zb];by_cases H:r.count 57=0\/1<r.count 86
 ·rw[if_pos H,if_pos H];exact⟨_,rfl,fun _ _ h=>by cases h⟩
 ·rw[if_neg H,if_neg H,zb];by_cases h2:r.count 80=0
  ·rw[if_pos oM,if_pos h2,JL lw.1 J,zc,zb];by_cases j:cnt [57] (Lib.cut r [86]).1=(Lib.cut r [86]).1.length
   ·rw[if_pos j,JL lw.2 J,zc];by_cases B:cnt [57] (Lib.cut r [86]).2.1=(Lib.cut r [86]).2.1.length
    ·rw[if_pos ⟨j,B⟩,decide_eq_true B];exact⟨_,rfl,fun _ _ h=>by cases h;rfl⟩
    ·rw[if_neg (fun h=>B h.2),decide_eq_false B];exact⟨_,rfl,fun _ _ h=>by cases h⟩
   ·rw[if_neg j,if_neg (fun h=>j h.1)];exact⟨_,rfl,fun _ _ h=>by cases h⟩
  ·rw[if_neg oM,if_neg h2,JL lt J,zc,zb];have hF:∃sh,yJ N r ((r.count 80:Nat):Int) false S (Shape.mk 4 0 p ((r.count 57:Nat):Int) 0 sg false false false false ((r.count 57:Nat):Int))=
     some (sh,(if cnt [57] (Lib.trimRightS (Lib.trimSuffix r [86]) [80])=(Lib.trimRightS (Lib.trimSuffix r [86]) [80]).length then some (r.count 57,-((r.count 80:Nat):Int))else none).isSome)/\
     ∀d sc,(if cnt [57] (Lib.trimRightS (Lib.trimSuffix r [86]) [80])=(Lib.trimRightS (Lib.trimSuffix r [86]) [80]).length then some (r.count 57,-((r.count 80:Nat):Int))else none)=some (d,sc)->sh=yd p sg d sc:=by
    unfold yJ Vv zbo;rw[cond_false,zh oM oM,za,decide_eq_true oM,za,zc,decide_eq_true oM];rw[show(true&&(decide (([80]:uAU).length<4294967281)&&Wg [80]))=true from rfl,za,zc,JL ltr J,zc];by_cases B:cnt [57] (Lib.trimRightS (Lib.trimSuffix r [86]) [80])=(Lib.trimRightS (Lib.trimSuffix r [86]) [80]).length
    ·rw[if_pos B,decide_eq_true B];exact⟨_,rfl,fun _ _ h=>by cases h;rfl⟩
    ·rw[if_neg B,decide_eq_false B];exact⟨_,rfl,fun _ _ h=>by cases h⟩
   have hT:∃sh,yJ N r ((r.count 80:Nat):Int) true S (Shape.mk 4 0 p ((r.count 57:Nat):Int) 0 sg false false false false ((r.count 57:Nat):Int))=
     some (sh,true)/\sh=yd p sg (r.count 57) ((r.count 57+r.count 80:Nat):Int):=by
    unfold yJ;rw[cond_true,show(((r.count 57:Nat):Int)+((r.count 80:Nat):Int))=((r.count 57+r.count 80:Nat):Int)by omega,zh oM oM,za];exact⟨_,rfl,rfl⟩
   by_cases j:cnt [57] (Lib.trimLeftS r [86,80])=(Lib.trimLeftS r [86,80]).length
   ·rw[if_pos j];cases hpt:(Lib.cut r [86]).2.2 with
    |false=>rw[if_pos ⟨j,.inl rfl⟩];obtain⟨sh,Y,Z⟩:=hT;exact⟨sh,Y,fun _ _ h=>by cases h;exact Z⟩
    |true=>
     have hl:0<r.length:=by
      rcases Nat.eq_zero_or_pos r.length with h|h
      ·have:r.count 80<=0:=oM
       omega
      ·exact h
     have hx:=jB hl;have hb:=zP r 0;rw[show((0:Nat):Int)=0 from rfl]at hx hb;simp only[uAf,cond_false,hx,za,hb];by_cases I:r.getD 0 0=86
     ·rw[if_pos ⟨j,.inr I⟩,decide_eq_true (by rw[I];rfl)];obtain⟨sh,Y,Z⟩:=hT;exact⟨sh,Y,fun _ _ h=>by cases h;exact Z⟩
     ·rw[if_neg (by rintro⟨_,h|h⟩;cases h;exact I h),decide_eq_false (show¬(((r.getD 0 0).toNat:Int)=86)from fun e=>I (Qh.1 e))];exact hF
   ·rw[if_neg j,if_neg (fun h=>j h.1)];exact hF
theorem zox{N:Nat}(H:1000<N){p:uAU}(hp:p.length<=400):
  ∃sh,zfK N p=some (sh,(zdM (unS p)).isSome)/\∀d sc,zdM (unS p)=some (d,sc)->sh=yd p (sgS p) d sc:=by
 have B:Lib.trimPrefix p [83]=unS p/\Lib.hasPrefix p [83]=sgS p:=by unfold Lib.trimPrefix unS sgS;rw[zrA p 83 dE];simp
 have j:(unS p).length<=400:=by
  unfold unS;split
  ·rw[mP];omega
  ·exact hp
 unfold zfK YD zDN J0;rw[zc,B.1,B.2];generalize unS p=r at*
 rw[decide_eq_true (show r.length<4294967281 by omega),za,zc];show∃sh,(bnd (some ((r.count 80:Nat):Int)) fun O=>bnd (some ((r.count 57:Nat):Int)) fun J=>_)=_/\_;rw[zc,zc];rw[show(decide (([86,80]:uAU).length<4294967281)&&Wg [86,80])=true from rfl,za,zc,zb];by_cases h:r.count 57=0
 ·rw[if_pos oM];exact zaD H j _ p (sgS p) true (by rw[decide_eq_true (.inl h)])
 ·rw[if_neg oM];show∃sh,(bnd (some ((r.count 86:Nat):Int)) fun I=>_)=_/\_;rw[zc];refine zaD H j _ p (sgS p) _ ?_;rw[Bool.eq_iff_iff];simp only[decide_eq_true_eq];omega
theorem zr(c x:UInt8)(n:Nat):(rp n c).count x=if c=x then n else 0:=by rw[rp,List.count_replicate];by_cases h:c=x<;>simp[h]
theorem zpB{r:uAU}{c:UInt8}(h:r.count c=0):Lib.cut r [c]=(r,[],false):=by
 rcases cut1 r c with⟨j,_⟩|⟨i,hi,hc,_,_⟩
 ·exact j
 ·exfalso;have:c∈r:=by rw[<-hc,zcK hi];exact List.getElem_mem hi
  exact absurd h (by have:=List.count_pos_iff.2 this;omega)
theorem zyN{s t:uAU}{c:UInt8}(h:s.count c=0):Lib.cut (s++c::t) [c]=(s,t,true):=by
 rcases cut1 (s++c::t) c with⟨_,B⟩|⟨i,hi,hc,S,U⟩
 ·rw[List.count_append,List.count_cons_self]at B;omega
 ·have H:=List.count_eq_zero.1 h;have I:=List.count_eq_zero.1 U;have B:i=s.length:=by
   rcases Nat.lt_trichotomy i s.length with j|J|O
   ·exfalso;apply H;rw[zcK hi,List.getElem_append_left j]at hc;rw[<-hc];exact List.getElem_mem j
   ·exact J
   ·exfalso;apply I;have:(s++c::t).take i=s++(c::t).take (i-s.length):=by rw[List.take_append];rw[nQ oM]
    rw[this,mU];right;obtain⟨m,H⟩:∃m,i-s.length=m+1:=⟨i-s.length-1,oM⟩
    rw[H,uAe];simp
  subst B;rw[S];simp
theorem JP{set:uAU}{c:UInt8}(h:set.contains c=true)(t:uAU):∀n,(rp n c++t).dropWhile (set.contains ·)=t.dropWhile (set.contains ·)
 |0=>rfl
 |n+1=>by rw[rp,List.replicate_succ,uAu,List.dropWhile_cons,if_pos h];exact JP h t n
theorem Kt{set:uAU}{c:UInt8}(h:set.contains c=false)(t:uAU){n:Nat}(j:1<=n):(rp n c++t).dropWhile (set.contains ·)=rp n c++t:=by
 obtain⟨m,rfl⟩:∃m,n=m+1:=⟨n-1,oM⟩
 rw[rp,List.replicate_succ,uAu,List.dropWhile_cons,if_neg (by rw[h];simp)]
theorem zlr(n:Nat)(c:UInt8):(rp n c).reverse=rp n c:=List.reverse_replicate ..
theorem zh6(s:uAU)(c x:UInt8):Lib.hasSuffix (s++[x]) [c]=decide (x=c):=by
 unfold Lib.hasSuffix;rw[Bool.eq_iff_iff,decide_eq_true_eq,List.isSuffixOf_iff_suffix];constructor
 ·rintro⟨t,j⟩;have:=congrArg List.getLast? j;simpa using this.symm
 ·rintro rfl;exact⟨s,rfl⟩
theorem zoa(n:Nat)(c:UInt8):rp (n+1) c=rp n c++[c]:=List.replicate_succ'
theorem zjO(s:uAU)(c x:UInt8):(s++[x]).take ((s++[x]).length-[c].length)=s:=by
 have:(s++[x]).length-[c].length=s.length:=sI
 rw[this,List.take_left]
theorem zvr{r:uAU}{d:Nat}{sc:Int}(h:zp5 r d sc):zdM r=some (d,sc):=by
 rcases h with⟨c,f,hc,rfl,rfl,rfl⟩|⟨a,b,c,ha,hc,rfl,O,rfl⟩|⟨c,k,e,hc,hk,he,rfl,O,rfl⟩
 ·have B:(rp c 57++((86:UInt8)::rp f 57)).count 57=c+f:=by rw[List.count_append,List.count_cons_of_ne dE,zr,zr];rfl
  have j:(rp c 57++((86:UInt8)::rp f 57)).count 86=1:=by rw[List.count_append,List.count_cons_self,zr,zr];rfl
  have I:(rp c 57++((86:UInt8)::rp f 57)).count 80=0:=by rw[List.count_append,List.count_cons_of_ne dE,zr,zr];rfl
  have e4:Lib.cut (rp c 57++((86:UInt8)::rp f 57)) [86]=(rp c 57,rp f 57,true):=zyN (by rw[zr];rfl);unfold zdM;rw[B,j,I,e4,if_neg oM,if_pos rfl,if_pos ⟨by rw[yS];simp,by rw[yS];simp⟩];simp
 ·obtain rfl:c=d:=O.symm;have B:(rp a 86++(rp b 80++rp c 57)).count 57=c:=by rw[List.count_append,List.count_append,zr,zr,zr];simp
  have j:(rp a 86++(rp b 80++rp c 57)).count 86=a:=by rw[List.count_append,List.count_append,zr,zr,zr];simp
  have I:(rp a 86++(rp b 80++rp c 57)).count 80=b:=by rw[List.count_append,List.count_append,zr,zr,zr];simp
  unfold zdM;rw[B,j,I,if_neg oM];by_cases S:b=0
  ·subst S;rw[if_pos rfl];by_cases H:a=0
   ·subst H;rw[show(rp 0 86++(rp 0 80++rp c 57))=rp c 57 from rfl,zpB (by rw[zr];rfl),if_pos ⟨by rw[yS];simp,rfl⟩,if_pos sI];rfl
   ·have:a=1:=oM
    subst this;rw[show(rp 1 86++(rp 0 80++rp c 57))=[]++86::rp c 57 from rfl,zyN rfl,if_pos ⟨rfl,by rw[yS];simp⟩,if_neg oM];simp
  ·rw[if_neg S];have J:Lib.trimLeftS (rp a 86++(rp b 80++rp c 57)) [86,80]=rp c 57:=by unfold Lib.trimLeftS;rw[JP rfl,JP rfl];have:=Kt (set:=[86,80]) (c:=57) rfl [] (n:=c) hc;rw[nM]at this;exact this
   rw[J,if_pos,if_neg oM];refine⟨by rw[yS];simp,?_⟩;by_cases H:a=0
   ·left;subst H;rw[zpB j]
   ·right;have:a=1:=oM
    subst this;rfl
 ·obtain rfl:c=d:=O.symm;have B:(rp c 57++(rp k 80++rp e 86)).count 57=c:=by rw[List.count_append,List.count_append,zr,zr,zr];simp
  have j:(rp c 57++(rp k 80++rp e 86)).count 86=e:=by rw[List.count_append,List.count_append,zr,zr,zr];simp
  have I:(rp c 57++(rp k 80++rp e 86)).count 80=k:=by rw[List.count_append,List.count_append,zr,zr,zr];simp
  have J:Lib.trimLeftS (rp c 57++(rp k 80++rp e 86)) [86,80]=rp c 57++(rp k 80++rp e 86):=Kt rfl _ hc;have U:cnt [57] (rp c 57++(rp k 80++rp e 86))=c:=by rw[Qf,yR dE _ hk];rfl
  have Y:Lib.trimSuffix (rp c 57++(rp k 80++rp e 86)) [86]=rp c 57++rp k 80:=by
   unfold Lib.trimSuffix;by_cases H:e=0
   ·subst H;obtain⟨m,rfl⟩:∃m,k=m+1:=⟨k-1,oM⟩
    rw[show rp (m+1) 80++rp 0 86=rp m 80++[80]by rw[zoa];simp,<-mR,zh6,if_neg sI,zoa,mR]
   ·have:e=1:=oM
    subst this;rw[show rp 1 86=[86]from rfl,<-mR,zh6,if_pos sI];exact zjO _ _ _
  have Z:Lib.trimRightS (rp c 57++rp k 80) [80]=rp c 57:=by unfold Lib.trimRightS;rw[List.reverse_append,zlr,zlr,JP rfl];have:=Kt (set:=[80]) (c:=57) rfl [] (n:=c) hc;rw[nM]at this;rw[this,zlr]
  unfold zdM;rw[B,j,I,if_neg oM,if_neg oM,J,U,if_neg (by simp;omega),Y,Z,if_pos (by rw[yS];simp)]
theorem zy4{c:UInt8}{l:uAU}(h:∀x∈l,x=c):l=rp l.length c:=List.eq_replicate_iff.2 ⟨rfl,h⟩
theorem zt7{l:uAU}{a b:UInt8}(h:∀x∈l,x=a\/x=b)(B:l.count a=0):l=rp l.length b:=by
 refine zy4 fun x j=>?_
 rcases h x j with rfl|h
 ·exact absurd j (List.count_eq_zero.1 B)
 ·exact h
theorem zaA{set:uAU}{l:uAU}:∀x∈l.takeWhile (set.contains ·),set.contains x=true:=by
 induction l with
 |nil=>intro x j;cases j
 |cons y l H=>
  intro x j;rw[List.takeWhile_cons]at j;split at j
  ·rename_i B;rcases nB.1 j with rfl|j
   ·exact B
   ·exact H x j
  ·cases j
theorem zu0{r:uAU}{d:Nat}{sc:Int}(h:zdM r=some (d,sc)):∃d sc,zp5 r d sc:=by
 unfold zdM at h;split at h
 ·cases h
 ·rename_i h1;split at h
  ·rename_i h2;split at h
   ·rename_i I;obtain⟨I,H⟩:=I;rcases cut1 r 86 with⟨hc,O⟩|⟨i,hi,hg,hc,O⟩
    ·rw[hc]at I;obtain⟨n,U⟩:=Wa I;replace U:r=rp n 57:=U;refine⟨n,0,.inr (.inl ⟨0,0,n,oM,?_,U,rfl,sI⟩)⟩;have:r.count 57=n:=by rw[U,zr];rfl
     omega
    ·rw[hc]at I H;obtain⟨n,U⟩:=Wa I;obtain⟨f,hf⟩:=Wa H;replace U:r.take i=rp n 57:=U;replace hf:r.drop (i+1)=rp f 57:=hf;have J:r=rp n 57++(86::rp f 57):=by rw[<-U,<-hf,<-hg,<-jq hi,mW]
     by_cases h0:n=0
     ·subst h0;refine⟨f,f,.inr (.inl ⟨1,0,f,oM,?_,J,rfl,sI⟩)⟩;have:r.count 57=f:=by rw[J,List.count_append,List.count_cons_of_ne dE,zr,zr];simp
      omega
     ·exact⟨n+f,f,.inl ⟨n,f,oM,J,rfl,rfl⟩⟩
   ·cases h
  ·rename_i h2;have j:r=r.takeWhile (([86,80]:uAU).contains ·)++Lib.trimLeftS r [86,80]:=(List.takeWhile_append_dropWhile).symm;have B:∀x∈r.takeWhile (([86,80]:uAU).contains ·),x=86\/x=80:=fun x Z=>by have:=zaA x Z;simpa using this
   split at h
   ·rename_i I;obtain⟨I,H⟩:=I;obtain⟨c,hc⟩:=Wa I;rw[hc]at j;have h57:(r.takeWhile (([86,80]:uAU).contains ·)).count 57=0:=List.count_eq_zero.2 fun hm=>by rcases B _ hm with h|h<;>cases h
    have hc1:r.count 57=c:=by have:=congrArg (List.count 57) j;rw[List.count_append,h57,zr]at this;simpa using this
    by_cases Y:(r.takeWhile (([86,80]:uAU).contains ·)).count 86=0
    ·have:=zt7 B Y;rw[this]at j;exact⟨c,_,.inr (.inl ⟨0,_,c,oM,oM,j,rfl,rfl⟩)⟩
    ·have S:r.count 86=(r.takeWhile (([86,80]:uAU).contains ·)).count 86:=by have:=congrArg (List.count 86) j;rw[List.count_append,zr]at this;simpa using this
     rcases H with H|H
     ·exfalso;rcases cut1 r 86 with⟨hcc,O⟩|⟨i,hi,hg,hcc,O⟩
      ·omega
      ·rw[hcc]at H;cases H
     ·cases hT:r.takeWhile (([86,80]:uAU).contains ·)with
      |nil=>rw[hT]at Y;exact absurd rfl Y
      |cons y T=>
       rw[hT]at j B S;have hy:y=86:=by rw[j]at H;simpa using H
       subst hy;rw[List.count_cons_self]at S;have:=zt7 (fun x Z=>B x (by simp[Z])) (show T.count 86=0 by omega);rw[this]at j;exact⟨c,_,.inr (.inl ⟨1,_,c,oM,oM,j,rfl,rfl⟩)⟩
   ·split at h
    ·rename_i I H;obtain⟨c,hc⟩:=Wa H;have hs:∃k,Lib.trimSuffix r [86]=rp c 57++rp k 80:=by have:=(List.takeWhile_append_dropWhile (p:=(([80]:uAU).contains ·)) (l:=(Lib.trimSuffix r [86]).reverse)).symm;have O:=zy4 (c:=80) (l:=(Lib.trimSuffix r [86]).reverse.takeWhile (([80]:uAU).contains ·)) (fun x Z=>by have:=zaA x Z;simpa using this);rw[O]at this;have h6:=congrArg List.reverse this;rw[List.reverse_reverse,List.reverse_append,zlr]at h6;unfold Lib.trimRightS at hc;rw[hc]at h6;exact⟨_,h6⟩
     obtain⟨k,hk⟩:=hs;have J:∃e,e<=1/\r=rp c 57++(rp k 80++rp e 86):=by
      unfold Lib.trimSuffix at hk;split at hk
      ·rename_i O;unfold Lib.hasSuffix at O;obtain⟨t,ht⟩:=List.isSuffixOf_iff_suffix.1 O;refine⟨1,oM,?_⟩;rw[<-ht]at hk⊢;rw[zjO]at hk;rw[hk,mR];rfl
      ·exact⟨0,oM,by rw[hk];simp⟩
     obtain⟨e,he,J⟩:=J;have e1:r.count 57=c:=by rw[J,List.count_append,List.count_append,zr,zr,zr];simp
     have e3:r.count 80=k:=by rw[J,List.count_append,List.count_append,zr,zr,zr];simp
     exact⟨c,_,.inr (.inr ⟨c,k,e,oM,oM,he,J,rfl,rfl⟩)⟩
    ·cases h
theorem zuZ(r:uAU):zdM r=zco r:=by
 cases h:zco r with
 |some x=>exact zvr (numS_form h)
 |none=>
  cases h2:zdM r with
  |none=>rfl
  |some y=>obtain⟨d,sc,j⟩:=zu0 h2;rw[zvq j]at h;cases h
def Y4(c:UInt8):Bool:=([66,48,47,44]:uAU).contains c
def noIns(s:uAU):uAU:=s.filter (fun c=>!Y4 c)
theorem zbl(c:UInt8)(s:uAU):noIns (c::s)=if Y4 c then noIns s else c::noIns s:=by unfold noIns;rw[List.filter_cons];cases Y4 c<;>rfl
theorem zD8(s:uAU)(i:Nat):(bs s).get! i=s.getD i 0:=by show s.toArray[i]! =_;rw[List.getElem!_toArray,List.getElem!_eq_getElem?_getD,mN];rfl
theorem zaQ(s:uAU)(i:Nat)(h:(s.getD i 0).toNat<128):Utf8.decode (bs s) i=((s.getD i 0).toNat,1):=by unfold Utf8.decode;simp only[uAa,zD8];rw[if_pos h]
theorem JJ{s:uAU}{i:Nat}(h:(s.getD i 0).toNat<128):qy s i=((s.getD i 0).toNat:Int):=by unfold qy;rw[zaQ s i h]
theorem ZZ{s:uAU}{i:Nat}(h:(s.getD i 0).toNat<128):widthAt s i=1:=by unfold widthAt;rw[zaQ s i h]
theorem zeU(N:Nat){c:UInt8}(h:c.toNat<128):zcU N (c.toNat:Int)=some (if Y4 c then-1 else(c.toNat:Int)):=by unfold zcU Qw;rw[decide_eq_true oM,decide_eq_true oM];simp only[nY,za,zc,za2,jN];unfold Y4;cases([66,48,47,44]:uAU).contains c<;>rfl
theorem W8{s:uAU}{i:Nat}(h:i<s.length):s.getD i 0∈s:=by rw[zcK h];exact List.getElem_mem h
theorem zqn(c:UInt8):[(c.toNat:Int)].map toByte=[c]:=by
 show[toByte (c.toNat:Int)]=[c]
 unfold toByte;simp
theorem Jx{N:Nat}(s:uAU)(B:s.length<=400)(ha:∀c∈s,c.toNat<128):∀(n i:Nat)(out:uAU),i<=s.length->s.length-i<n->out.length<=400+i->
  Zi N n s i out=some (out++noIns (s.drop i))
 |0,i,out,_,h,_=>oM
 |n+1,i,out,hi,h,ho=>by
  show Yt N (Zi N n) s i out=_;unfold Yt;by_cases j:i<s.length
  ·have hc:=ha _ (W8 j);rw[show Nat.blt i s.length=true from mY j,cond_true,JJ hc,zeU N hc,zc,ZZ hc,jq j,zbl,zb];cases hd:Y4 (s.getD i 0)with
   |true=>rw[if_pos rfl,if_neg oM,if_pos rfl];exact Jx s B ha n (i+1) out oM oM oM
   |false=>simp only[nA,if_false];rw[if_pos oM,zb,if_pos oM,zgV oM oM];unfold Wd;rw[show inKb .u8 ((s.getD i 0).toNat:Int)=true from yq.2 ⟨by show(0:Int)<=_;omega,by show _<=(255:Int);omega⟩];rw[Bool.and_true,za,zqn,Zn (by simp;omega),za,zc,Jx s B ha n (i+1) _ oM oM (by simp;omega),mR];rfl
  ·rw[show Nat.blt i s.length=false from Bool.eq_false_iff.2 (fun e=>j (mQ e)),cond_false,List.drop_eq_nil_of_le oM];unfold Vu;rw[decide_eq_true oM,za,zc];simp[noIns]
theorem KN{N:Nat}(O:1000<N)(s:uAU)(H:s.length<=400)(ha:∀c∈s,c.toNat<128):∀(n i:Nat),i<=s.length->s.length-i<n->
  yZ N n s s i=some (s.take i++noIns (s.drop i))
 |0,i,_,h=>oM
 |n+1,i,hi,h=>by
  show Yu N (yZ N n) s s i=_;unfold Yu;by_cases j:i<s.length
  ·have hc:=ha _ (W8 j);rw[show Nat.blt i s.length=true from mY j,cond_true,JJ hc,zeU N hc,zc,ZZ hc,jq j,zbl,zb];cases hd:Y4 (s.getD i 0)with
   |true=>
    rw[if_pos rfl,if_neg oM,if_pos rfl];unfold JM;rw[zb,if_neg oM];have B:Yy ((s.getD i 0).toNat:Int)=some 1:=by unfold Yy Lib.runeLen;rw[if_neg oM,if_pos oM]
    rw[B,zc,zh oM oM,za];have I:zbK N ((s.length:Int)+4)=some []:=by
     unfold zbK;rw[decide_eq_false oM,cond_false,decide_eq_true oM,cond_true];have:XS ((s.length:Int)+4)=true:=by rw[show((s.length:Int)+4)=Int.ofNat (s.length+4)from rfl];unfold XS;simp only[mY (show 1<=s.length+4 by omega),mY (show s.length+4<=281474976710656 by omega)];rfl
     rw[this,za,zc]
    rw[I,zc,zt.2 ⟨oM,oM,oM⟩,za];unfold JS;have J:jy s (i:Int)=s.take i:=rfl;rw[J,uAH,Zn (by rw[mI];omega),za,zc,decide_eq_false oM,cond_false];rw[show((i:Int)+1)=((i+1:Nat):Int)by omega,zh oM oM,za,zt.2 ⟨oM,oM,oM⟩,za];unfold ziO;rw[zc,zd6];have:=Jx (N:=N) (s.drop (i+1)) (by rw[mP];omega) (fun c hc=>ha c (List.mem_of_mem_drop hc)) N 0 (s.take i) oM (by rw[mP];omega) (by rw[mI];omega);rw[this,nS]
   |false=>simp only[nA,if_false];rw[if_true,decide_eq_false oM,uAS,cond_true,KN O s H ha n (i+1) oM oM];rw[List.take_add_one,mR];congr 2;rw[mJ j,<-zcK j];rfl
  ·rw[show Nat.blt i s.length=false from Bool.eq_false_iff.2 (fun e=>j (mQ e)),cond_false,List.drop_eq_nil_of_le oM,nQ oM];simp[noIns]
theorem zjl{N:Nat}(B:1000<N){s:uAU}(j:s.length<=400)(ha:∀c∈s,c.toNat<128):WU N s=some (noIns s):=by unfold WU;have:=KN B s j ha N 0 oM oM;simpa using this
end Go.Proofs.C06
