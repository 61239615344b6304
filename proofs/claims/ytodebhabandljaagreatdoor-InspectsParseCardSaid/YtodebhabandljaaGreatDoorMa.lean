/-
  A part of the proof of the laws.
-/
import Derived.Test.YtodebhabandljaaGreatDoorCi
import Derived.Test.YtodebhabandljaaGreatDoorUd
import Derived.Test.YtodebhabandljaaGreatDoorUa
section
set_option maxRecDepth 100000
namespace Go.Proofs.C06
open Go Go.RowKit Go.Vc Go.Am
theorem yu{n:Int}(j: -9223372036854775808<=n)(y:n<=9223372036854775807):zn .i64 n=true:=
 ql.2 ⟨j,y⟩
def tkV(t:Token):AV:=.agg [.int .u8 t.uG,.str t.uH,.int .i64 t.uO,.int .i64 t.uP,.bool t.uQ]
def tkL(ts:List Token):List AV:=ts.map tkV
theorem z8(ts:List Token):(tkL ts).length=ts.length:=by simp[tkL]
theorem znZ(a b:List Token):tkL (a++b)=tkL a++tkL b:=by simp[tkL]
theorem Xh(L:List AV)(m:Nat):atV L (m:Int)=L.getD m .undef:=by unfold atV;rw[nA]
theorem Qd{ts:List Token}{i:Nat}{t:Token}(h:ts[i]? =some t):atV (tkL ts) (i:Int)=tkV t:=by rw[Xh,mG,tkL,mX,h];rfl
theorem zA1{ts:List Token}{i:Nat}{t:Token}(h:ts[i]? =some t):zw (i:Int) (tkL ts).length=true:=by have:=(kX.1 h).1;rw[z8];exact zB.2 ⟨by omega,by omega⟩
def zj4(l:List AV)(i:Int):Bool:=zw i (l).length&&(jS (atV l i) 5&&(zd .u8 (zb (atV l i) 0)&&(Z8 (zb (atV l i) 1)&&(zd .i64 (zb (atV l i) 2)&&(zd .i64 (zb (atV l i) 3)&&(yT (zb (atV l i) 4)&&true))))))
theorem zei{ts:List Token}{i:Nat}{t:Token}(h:ts[i]? =some t):zj4 (tkL ts) (i:Int)=true:=by unfold zj4;rw[zA1 h,Qd h];rfl
theorem zgw{N:Nat}{s:List uAS}{v:uAS}(j:s.length<=1000):∀(k i:Nat),i<=s.length->s.length-i<k->
  ∃r:Int,K7 N k s v (s.length:Int) (i:Int)=some r/\(0<=r↔v∈s.drop i)
 |0,i,_,h=>by omega
 |k+1,i,hi,hk=>by
  show∃r:Int,zar N (K7 N k) s v (s.length:Int) (i:Int)=some r/\_;unfold zar;by_cases h:i<s.length
  ·have e:atS s (i:Int)=s[i]:=by unfold atS;rw[nA,mG,kZ h];rfl
   rw[decide_eq_true (show(i:Int)<(s.length:Int)by omega),cond_true,zB.2 ⟨by omega,by omega⟩,za,e];by_cases hv:v=s[i]
   ·rw[decide_eq_true hv,cond_true];exact⟨i,rfl,fun _=>by rw[nH h,hv];exact mV,fun _=>by omega⟩
   ·rw[decide_eq_false hv,cond_false,yu (by omega) (by omega),za];obtain⟨r,B,y⟩:=zgw j k (i+1) (by omega) (by omega);exact⟨r,B,by rw[y,nH h,mS];simp[hv]⟩
  ·rw[decide_eq_false (show¬(i:Int)<(s.length:Int)by omega),cond_false];exact⟨-1,rfl,by rw[nS (by omega)];simp⟩
theorem zsc{N:Nat}{s:List uAS}{v:uAS}(j:s.length<=1000)(H:s.length<N):zkk N s v=some (decide (v∈s)):=by unfold zkk zzY;obtain⟨r,B,y⟩:=zgw (N:=N) (v:=v) j N 0 (by omega) (by omega);rw[show((0:Int))=((0:Nat):Int)from rfl,B,ze];exact congrArg some (decide_eq_decide.2 y)
def isT(ts:List Token)(i:Nat)(k:Int)(w:List uAS):Bool:=match ts[i]? with
 |some t=>decide (t.uG=k)&&decide (t.uH∈w)
 |none=>false
theorem zex{N:Nat}{ts:List Token}{i:Nat}{k:Int}{w:List uAS}(H:w.length<=1000)(y:w.length<N):sIs N (tkL ts) (i:Int) k w=some (isT ts i k w):=by
 unfold sIs isT;cases h:ts[i]? with
 |none=>have:=uAP.1 h;rw[decide_eq_false (by rw[z8];omega),cond_false]
 |some t=>
  have B:=(kX.1 h).1;have hk:=zei h;unfold zj4 at hk;rw[decide_eq_true (by rw[z8];omega),cond_true,hk,za,za,Qd h];show cond (decide (t.uG=k)) (bnd (zkk N w t.uH) fun I=>some I) (some false)=_;rw[zsc H y,ze];dsimp only;by_cases j:t.uG=k
  ·rw[decide_eq_true j,cond_true,uAc]
  ·rw[decide_eq_false j,cond_false,uAq]
def Wd(t:Token):Prop:=t.uG=1->zb5 t.uH qQ=true
def nmT(ts:List Token)(i:Nat):Bool:=match ts[i]? with
 |some t=>decide (t.uG=1)&&decide (jy t.uH jd=0)
 |none=>false
theorem zhu{s:uAS}(h:zb5 s qQ=true):zjZ s=some (jy s jd):=by unfold zjZ;rw[h,za]
theorem zkh{N:Nat}{ts:List Token}{i:Nat}(B:∀t∈ts,Wd t):zki N (tkL ts) (i:Int)=some (nmT ts i):=by
 unfold zki nmT;cases h:ts[i]? with
 |none=>have:=uAP.1 h;rw[decide_eq_false (by rw[z8];omega),cond_false]
 |some t=>
  have y:=(kX.1 h).1;have hk:=zei h;unfold zj4 at hk;rw[decide_eq_true (by rw[z8];omega),cond_true,hk,za,za,Qd h];show cond (decide (t.uG=1)) (bnd (zjZ t.uH) fun H=>some (decide (H=0))) (some false)=_;by_cases j:t.uG=1
  ·rw[decide_eq_true j,cond_true,zhu (B t (nK h) j),ze];simp[j]
  ·rw[decide_eq_false j,cond_false];simp[j]
def isP(t:Token)(c:UInt8):Bool:=decide (t.uG=5)&&decide (t.uH=[c])
def dep(t:Token)(d:Int):Int:=if isP t 40 then d+1 else if isP t 41 then d-1 else d
def prt(t:Token)(d:Int)(p:Bool):Bool:=if isP t 40 then p else if isP t 41 then p else if isP t 58&&decide (d=1)then true else p
def zfk:List Token->Int->Bool->Nat->Nat×Bool
 |[],_,_,_=>(0,false)
 |t::r,d,p,n=>if dep t d=0 then(n+1,prt t d p)else zfk r (dep t d) (prt t d p) (n+1)
def grp(ts:List Token)(i:Nat):Nat×Bool:=if isT ts i 5 [[40]]then zfk (ts.drop i) 0 false 0 else(0,false)
theorem grpL_le:∀(r:List Token)(d:Int)(p:Bool)(n:Nat),(zfk r d p n).1=0\/(n<(zfk r d p n).1/\(zfk r d p n).1<=n+r.length)
 |[],_,_,_=>.inl rfl
 |t::r,d,p,n=>by
  unfold zfk;split
  ·exact .inr ⟨by dsimp only;omega,by simp⟩
  ·rcases grpL_le r (dep t d) (prt t d p) (n+1)with h|⟨y,j⟩
   ·exact .inl h
   ·exact .inr ⟨by omega,by rw[mC];omega⟩
theorem zi5(ts:List Token)(i:Nat)(_:i<=ts.length):(grp ts i).1<=ts.length-i:=by
 unfold grp;split
 ·rcases grpL_le (ts.drop i) 0 false 0 with h|⟨_,j⟩
  ·omega
  ·rw[mL]at j;omega
 ·exact nL _
theorem zub{ts:List Token}{i:Nat}{t:Token}(h:ts[i]? =some t)(c:UInt8):isT ts i 5 [[c]]=isP t c:=by unfold isT isP;rw[h];simp
theorem Qk{N:Nat}(O:1<N){ts:List Token}(hl:ts.length<=1000){i:Nat}:∀(k j:Nat)(d:Int)(p:Bool),i<=j->j<=ts.length->ts.length-j<k-> -(j:Int)<=d->d<=(j:Int)->
  qC N k (tkL ts) (i:Int) d p (j:Int)=some ((((zfk (ts.drop j) d p (j-i)).1:Nat):Int),(zfk (ts.drop j) d p (j-i)).2)
 |0,j,_,_,_,_,h,_,_=>by omega
 |k+1,j,d,p,hij,hj,hk,I,h2=>by
  show Ql N (qC N k) (tkL ts) (i:Int) d p (j:Int)=_;unfold Ql;by_cases h:j<ts.length
  ·have Z:ts[j]? =some ts[j]:=kZ h;rw[decide_eq_true (by rw[z8];omega),cond_true,zex (by simp) O,ze,zex (by simp) O,ze,zex (by simp) O,ze,zub Z,zub Z,zub Z];rw[nH h];generalize ts[j]=t;have fin:∀(y:Int)(J:Bool),y=dep t d->J=prt t d p->yW N (qC N k) (tkL ts) (i:Int) y J (j:Int)=
     some ((((zfk (t::ts.drop (j+1)) d p (j-i)).1:Nat):Int),(zfk (t::ts.drop (j+1)) d p (j-i)).2):=by
    intro y J H hp;have B: -(j:Int)-1<=y/\y<=(j:Int)+1:=by rw[H];unfold dep;(repeat' split)<;>omega
    unfold yW zfk;rw[<-H,<-hp,yu (by omega) (by omega)];by_cases U:y=0
    ·rw[decide_eq_true U,cond_true,if_pos U,za,yu (by omega) (by omega),za];refine congrArg some (Prod.ext ?_ rfl);dsimp only;omega
    ·rw[decide_eq_false U,cond_false,if_neg U,za];have:=Qk O hl (i:=i) k (j+1) y J (by omega) (by omega) (by omega) (by omega) (by omega);rw[show j+1-i=j-i+1 by omega]at this;exact this
   cases ha:isP t 40 with
   |true=>rw[cond_true,yu (by omega) (by omega),za];exact fin _ _ (by unfold dep;rw[ha];rfl) (by unfold prt;rw[ha];rfl)
   |false=>
    rw[cond_false];cases B:isP t 41 with
    |true=>rw[cond_true,yu (by omega) (by omega),za];exact fin _ _ (by unfold dep;rw[ha,B];rfl) (by unfold prt;rw[ha,B];rfl)
    |false=>
     rw[cond_false];have H:d=dep t d:=by unfold dep;rw[ha,B];rfl
     cases hc:isP t 58 with
     |true=>
      rw[cond_true];by_cases I:d=1
      ·rw[decide_eq_true I,cond_true];exact fin _ _ H (by unfold prt;rw[ha,B,hc,decide_eq_true I];rfl)
      ·rw[decide_eq_false I,cond_false];exact fin _ _ H (by unfold prt;rw[ha,B,hc,decide_eq_false I];rfl)
     |false=>rw[cond_false];exact fin _ _ H (by unfold prt;rw[ha,B,hc];rfl)
  ·rw[decide_eq_false (by rw[z8];omega),cond_false,nS (by omega)];rfl
theorem zgx{N:Nat}(j:1<N){ts:List Token}(y:ts.length<=1000)(H:ts.length<N){i:Nat}(B:i<=ts.length):zey N (tkL ts) (i:Int)=some (((grp ts i).1:Int),(grp ts i).2):=by
 unfold zey grp;rw[zex (by simp) j,ze];cases isT ts i 5 [[40]]with
 |false=>rfl
 |true=>
  rw[mP,cond_false,if_pos rfl];by_cases I:i=0
  ·subst I;exact Qk j y N 0 0 false (mA _) B (by omega) (by omega) (by omega)
  ·have:=Qk j y (i:=i) N i 0 false (mA _) B (by omega) (by omega) (by omega);rw[Nat.sub_self]at this;exact this
def ofN(ts:List Token):Nat->Nat->Nat
 |0,n=>n
 |k+1,n=>if isT ts n 1 [[79,70],[73,78]]&&nmT ts (n+1)then ofN ts k (n+2)else n
def opG(ts:List Token)(n:Nat):Nat:=if 0<(grp ts n).1/\(grp ts n).2=false then(if(grp ts (n+(grp ts n).1)).2 then n+(grp ts n).1+(grp ts (n+(grp ts n).1)).1 else n+(grp ts n).1)else n+(grp ts n).1
def opd(ts:List Token):Nat×Int:=
 if nmT ts 0 then(opG ts (ofN ts ts.length 1),0)
 else match ts[0]? with
  |none=>(0,4)
  |some t=>if t.uG=2\/t.uG=3\/(t.uG=1/\jy t.uH jd=3)then(1,0)else(0,4)
theorem ztS{ts:List Token}{i:Nat}(h:nmT ts i=true):i<ts.length:=by
 unfold nmT at h;split at h
 ·rename_i t j;exact (kX.1 j).1
 ·cases h
theorem zAn{ts:List Token}{n:Nat}(H:1<=n)(j:n<=ts.length):1<=opG ts n/\opG ts n<=ts.length:=by
 have y:=zi5 ts n j;have B:=zi5 ts (n+(grp ts n).1) (by omega);unfold opG;split
 ·split<;>omega
 ·omega
theorem X6{N:Nat}(B:1<N){ts:List Token}(y:ts.length<=1000)(j:ts.length<N){n:Nat}(I:n<=ts.length):qV N (tkL ts) (n:Int)=some ((opG ts n:Int),0):=by
 have U:=zi5 ts n I;have O:=zi5 ts (n+(grp ts n).1) (by omega);unfold qV;rw[zgx B y j I,ze];dsimp only;rw[yu (by omega) (by omega),za,show(n:Int)+((grp ts n).1:Int)=((n+(grp ts n).1:Nat):Int)by omega];have H:∀b:Bool,qU N (tkL ts) ((n+(grp ts n).1:Nat):Int) b=some (((if b=true then(if(grp ts (n+(grp ts n).1)).2 then n+(grp ts n).1+(grp ts (n+(grp ts n).1)).1 else n+(grp ts n).1)else n+(grp ts n).1:Nat):Int),0):=by
  intro b;unfold qU;cases b with
  |false=>rw[cond_false,if_neg (by simp)]
  |true=>
   rw[cond_true,if_pos rfl,zgx B y j (by omega),ze];dsimp only;rw[yu (by omega) (by omega),za];cases(grp ts (n+(grp ts n).1)).2 with
   |true=>rw[cond_true,if_pos rfl];exact congrArg some (Prod.ext (by dsimp only;omega) rfl)
   |false=>rw[cond_false,if_neg (by simp)]
 by_cases J:0<(grp ts n).1
 ·rw[decide_eq_true (show(0:Int)<((grp ts n).1:Int)by omega),cond_true,H];unfold opG;cases(grp ts n).2 with
  |true=>simp
  |false=>simp[J]
 ·rw[decide_eq_false (show¬(0:Int)<((grp ts n).1:Int)by omega),cond_false,H,if_neg (by simp)];unfold opG;rw[if_neg (fun h=>J h.1)]
theorem X5{N:Nat}(I:2<N){ts:List Token}(H:ts.length<=1000)(y:ts.length<N)(J:∀t∈ts,Wd t):∀(k f n:Nat),1<=n->n<=ts.length->ts.length-n<k->ts.length-n<f+1->
  ∃m,ofN ts f n=m/\1<=m/\m<=ts.length/\qT N k (tkL ts) (n:Int)=some ((opG ts m:Int),0)
 |0,_,n,_,_,h,_=>by omega
 |k+1,f,n,h1,hn,hk,hf=>by
  show∃m,_/\_/\_/\JD N (qT N k) (tkL ts) (n:Int)=_;unfold JD;rw[zex (by simp) (by simpa using I),ze];have j:∀B,(isT ts n 1 [[79,70],[73,78]]&&nmT ts (n+1))=false->ofN ts B n=n:=by
   intro B h;cases B with
   |zero=>rfl
   |succ B=>unfold ofN;rw[h];rfl
  cases ha:isT ts n 1 [[79,70],[73,78]]with
  |false=>rw[cond_false];exact⟨n,j f (by rw[ha];rfl),h1,hn,X6 (by omega) H y hn⟩
  |true=>
   rw[cond_true,yu (by omega) (by omega),za,show(n:Int)+1=((n+1:Nat):Int)from rfl,zkh J,ze];cases hb:nmT ts (n+1)with
   |false=>rw[cond_false];exact⟨n,j f (by rw[hb,Bool.and_false]),h1,hn,X6 (by omega) H y hn⟩
   |true=>
    have:=ztS hb;rw[cond_true,yu (by omega) (by omega),za,show(n:Int)+2=((n+2:Nat):Int)from rfl];cases f with
    |zero=>omega
    |succ f=>obtain⟨m,U,g2,Z,O⟩:=X5 I H y J k f (n+2) (by omega) (by omega) (by omega) (by omega);refine⟨m,?_,g2,Z,O⟩;unfold ofN;rw[ha,hb];exact U
theorem opd_ok{ts:List Token}:((opd ts).2=0/\1<=(opd ts).1/\(nmT ts 0=false->(opd ts).1=1/\1<=ts.length))\/((opd ts).2=4/\(opd ts).1=0):=by
 unfold opd;have j:∀(k n:Nat),1<=n->1<=ofN ts k n:=by
  intro k;induction k with
  |zero=>intro n h;exact h
  |succ k ih=>intro n h;unfold ofN;split;{exact ih _ (by omega)};exact h
 split
 ·rename_i B;refine .inl ⟨rfl,?_,fun h=>by rw[B]at h;cases h⟩;have:=j ts.length 1 (mA _);dsimp only;unfold opG
  (repeat' split)<;>omega
 ·split
  ·exact .inr ⟨rfl,rfl⟩
  ·rename_i t y;split
   ·exact .inl ⟨rfl,mA _,fun _=>⟨rfl,by have:=(kX.1 y).1;omega⟩⟩
   ·exact .inr ⟨rfl,rfl⟩
theorem zbs{N:Nat}(hN:2<N){ts:List Token}(Z:ts.length<=1000)(I:ts.length<N)(U:∀t∈ts,Wd t):K6 N (tkL ts)=some (((opd ts).1:Int),(opd ts).2)/\(opd ts).1<=ts.length:=by
 unfold K6 opd;rw[show((0:Int))=((0:Nat):Int)from rfl,zkh U,ze];cases h0:nmT ts 0 with
 |true=>have J:=ztS h0;rw[mP,cond_false,if_pos rfl];obtain⟨m,g1,g2,g3,g4⟩:=X5 hN Z I U N ts.length 1 (mA _) (by omega) (by omega) (by omega);rw[g1];exact⟨g4,(zAn g2 g3).2⟩
 |false=>
  rw[nT,cond_true,if_neg (by simp)];cases h:ts[0]? with
  |none=>have:=uAP.1 h;rw[decide_eq_true (show((tkL ts).length:Int)=((0:Nat):Int)by rw[z8];omega),cond_true];exact⟨rfl,nL _⟩
  |some t=>
   have J:=(kX.1 h).1;have hk:=zei h;unfold zj4 at hk;rw[decide_eq_false (show¬((tkL ts).length:Int)=((0:Nat):Int)by rw[z8];omega),cond_false,hk];simp only[za];rw[Qd h];show cond (!decide (t.uG=2)) (cond (!decide (t.uG=3)) (cond (!decide (t.uG=1)) (some (((0:Nat):Int),(4:Int))) (bnd (zjZ t.uH) fun O=>cond (!decide (O=3)) (some (((0:Nat):Int),4)) (some (1,((0:Nat):Int))))) (some (1,((0:Nat):Int)))) (some (1,((0:Nat):Int)))=_/\_;by_cases H:t.uG=2
   ·rw[decide_eq_true H,mP,cond_false,if_pos (.inl H)];exact⟨rfl,by dsimp only;omega⟩
   ·rw[decide_eq_false H,nT,cond_true];by_cases B:t.uG=3
    ·rw[decide_eq_true B,mP,cond_false,if_pos (.inr (.inl B))];exact⟨rfl,by dsimp only;omega⟩
    ·rw[decide_eq_false B,nT,cond_true];by_cases j:t.uG=1
     ·rw[decide_eq_true j,mP,cond_false,zhu (U t (nK h) j),ze];by_cases y:jy t.uH jd=3
      ·rw[decide_eq_true y,mP,cond_false,if_pos (.inr (.inr ⟨j,y⟩))];exact⟨rfl,by dsimp only;omega⟩
      ·rw[decide_eq_false y,nT,cond_true,if_neg (by simp[j,y])];exact⟨rfl,nL _⟩
     ·rw[decide_eq_false j,nT,cond_true,if_neg (by simp[j,H,B])];exact⟨rfl,nL _⟩
end Go.Proofs.C06
end
section
set_option maxRecDepth 100000
namespace Go.Proofs.C06
open Go Go.RowKit Go.Vc Go.Am
structure Cx(N:Nat)(ts:List Token):Prop where
 hN:1100<N
 hl:ts.length<=1000
 hw:∀t∈ts,Wd t
abbrev gst(ts:List Token)(p:Nat)(f t b a:Int)(tl rp lv:List AV):List AV×Int×Int×Int×Int×Int×List AV×List AV×List AV:=(tkL ts,(p:Int),f,t,b,a,tl,rp,lv)
def hdW(s:uAS):List Token->Bool
 |t::_=>decide (t.uG=1)&&decide (t.uH=s)
 |[]=>false
variable {N : Nat} {ts : List Token} {p : Nat} {f t b a : Int} {tl rp lv : List AV}
theorem ju(h:Cx N ts)(hp:p<=ts.length)(s:uAS):
  ya N s (tkL ts) (p:Int) f t b a tl rp lv=some (hdW s (ts.drop p),gst ts (p+(hdW s (ts.drop p)).toNat) f t b a tl rp lv):=by
 have H:=h.hl;unfold ya;cases hg:ts[p]? with
 |none=>have:=uAP.1 hg;rw[decide_eq_false (by rw[z8];omega),cond_false,nS this];rfl
 |some u=>
  have j:=(kX.1 hg).1;have e:ts.drop p=u::ts.drop (p+1):=by rw[nH j,(kX.1 hg).2]
  have hk:=zei hg;unfold zj4 at hk;rw[decide_eq_true (by rw[z8];omega),cond_true,hk,za,za,Qd hg,e];show cond (decide (u.uG=1)) (J6 N (decide (u.uH=s)) _ _ _ _ _ _ _ _ _) _=some ((decide (u.uG=1)&&decide (u.uH=s)),gst ts (p+(decide (u.uG=1)&&decide (u.uH=s)).toNat) f t b a tl rp lv);unfold J6;by_cases B:u.uG=1
  ·rw[decide_eq_true B,cond_true,uAc];by_cases y:u.uH=s
   ·rw[decide_eq_true y,cond_true,yu (by omega) (by omega),za];rfl
   ·rw[decide_eq_false y,cond_false];rfl
  ·rw[decide_eq_false B,cond_false,uAq,cond_false];rfl
theorem zhE{ts:List Token}{i j:Nat}:Am.subL (tkL ts) (i:Int) (j:Int)=tkL ((ts.drop i).take (j-i)):=by unfold Am.subL tkL;rw[nA,nA,uAl,uAf,List.drop_take]
theorem XB{ts:List Token}(h:(opd ts).2=0):1<=(opd ts).1:=by
 rcases opd_ok (ts:=ts)with j|j
 ·exact j.2.1
 ·rw[j.1]at h;cases h
theorem znV(h:Cx N ts)(p:Nat):∀u∈ts.drop p,Wd u:=fun u j=>h.hw u (List.mem_of_mem_drop j)
theorem Qz(h:Cx N ts):(opd (ts.drop p)).1<=ts.length-p:=by have:=(zbs (N:=N) (ts:=ts.drop p) (by have:=h.hN;omega) (by rw[mL];have:=h.hl;omega) (by rw[mL];have:=h.hl;have:=h.hN;omega) (znV h p)).2;rwa [mL]at this
theorem Js(h:Cx N ts)(hp:p<=ts.length):
  qr N (tkL ts) (p:Int) f t b a tl rp lv=some (if(opd (ts.drop p)).2=0 then(tkL ((ts.drop p).take (opd (ts.drop p)).1),true,gst ts (p+(opd (ts.drop p)).1) f t b a tl rp lv)else([],false,gst ts p f t b a tl rp lv)):=by
 have y:=h.hl;have B:=Qz (p:=p) h;unfold qr;rw[zK.2 ⟨by omega,by rw[z8];omega,by omega⟩,za,z8,zhE,nX (by rw[mL];omega),
  (zbs (N:=N) (ts:=ts.drop p) (by have:=h.hN;omega) (by rw[mL];omega) (by rw[mL];have:=h.hN;omega) (znV h p)).1,ze]
 dsimp only;by_cases j:(opd (ts.drop p)).2=0
 ·rw[decide_eq_true j,mP,cond_false,if_pos j,yu (by omega) (by omega),za,yu (by omega) (by omega),za,
   zK.2 ⟨by omega,by omega,by omega⟩,za,
   show(p:Int)+((opd (ts.drop p)).1:Int)-((opd (ts.drop p)).1:Int)=(p:Int)by omega,show(p:Int)+((opd (ts.drop p)).1:Int)=((p+(opd (ts.drop p)).1:Nat):Int)by omega,zhE,
   show p+(opd (ts.drop p)).1-p=(opd (ts.drop p)).1 by omega]
 ·rw[decide_eq_false j,nT,cond_true,if_neg j]
theorem zfr(h:∀u∈ts,Wd u):zg3 N (tkL ts)=some (nmT ts 0):=by
 unfold zg3 nmT;cases ts with
 |nil=>rfl
 |cons u r=>
  have y:(u::r)[0]? =some u:=rfl;have hk:=zei y;unfold zj4 at hk;rw[decide_eq_true (by rw[z8,mC];omega),cond_true,show((0:Int))=((0:Nat):Int)from rfl,hk,za,za,Qd y,y];show cond (decide (u.uG=1)) (bnd (zjZ u.uH) fun B=>some (decide (B=0))) (some false)=_;by_cases j:u.uG=1
  ·rw[decide_eq_true j,cond_true,zhu (h u mV j),ze];simp[j]
  ·rw[decide_eq_false j,cond_false];simp[j]
theorem zpj:∀ts:List Token,(Zw (tkL ts)).all zL=true
 |[]=>rfl
 |_::ts=>zpj ts
theorem K4{α:Type}(l:List α):Am.subL l 0 (l.length:Int)=l:=by unfold Am.subL;rw[nA,List.take_length];rfl
theorem zqA{N:Nat}{ts:List Token}(j:1<=ts.length)(y:ts.length<=100000):zjw N (tkL ts)=some (tkL ts):=by
 unfold zjw;rw[show Nat.ble 1 (tkL ts).length=true from nR (by rw[z8];exact j),za,zpj,uAc,nJ];have:growOk 48 (tkL ts).length=true:=by unfold growOk;rw[z8];simp only[kY,uAB];omega
 rw[this,za]
theorem zuR{N:Nat}{s:List AV}:zps N s=some s:=by unfold zps;rw[zK.2 ⟨by omega,by omega,by omega⟩,decide_eq_true rfl,K4];rfl
theorem zuh{n:Nat}(h:n<=100000):growOk 24 n=true:=by unfold growOk;simp only[kY,uAB];omega
theorem JH{n:Nat}(h:n<=100000):growOk 48 n=true:=by unfold growOk;simp only[kY,uAB];omega
def lfR(l:List Token):AV:=.rov true 5 (tkL l)
theorem zft{l:List Token}(j:1<=l.length)(y:l.length<=1000)(B:lv.length<=1000):
  zbM N (tkL l) (tkL ts) (p:Int) f t b a tl rp lv=some ((lv.length:Int),gst ts p f t b a tl rp (lv++[lfR l])):=by
 unfold zbM;rw[zqA j (by omega),ze,zuR,ze];rw[zuh (by rw[kW];simp;omega),za,kW];rw[show((lv.length+([AV.rov true 5 (tkL l)]).length:Nat):Int)-1=(lv.length:Int)by simp,yu (by omega) (by omega),za];rfl
theorem zul(h:Cx N ts)(hp:p<=ts.length)(y:lv.length<=1000):
  Jt N (tkL ts) (p:Int) f t b a tl rp lv=some (if(opd (ts.drop p)).2=0 then((lv.length:Int),true,gst ts (p+(opd (ts.drop p)).1) f t b a tl rp (lv++[lfR ((ts.drop p).take (opd (ts.drop p)).1)]))else(-1,false,gst ts p f t b a tl rp lv)):=by
 have B:=h.hl;have H:=Qz (p:=p) h;unfold Jt;rw[Js h hp,ze];by_cases j:(opd (ts.drop p)).2=0
 ·have:=XB j;rw[if_pos j,if_pos j];dsimp only;rw[mP,cond_false,zft (by rw[mH,mL];omega) (by rw[mH,mL];omega) y,ze]
 ·rw[if_neg j,if_neg j];dsimp only;rw[nT,cond_true]
def howM(first:Bool)(j:List Token):Int:=if hdW [67,72,65,82,65,67,84,69,82,83] j then 1 else if hdW [65,76,76] j then 2 else if hdW [76,69,65,68,73,78,71] j then 3 else if first&&hdW [70,73,82,83,84] j then 4 else 0
theorem zd7(h:Cx N ts)(hp:p<=ts.length)(first:Bool):
  zla N first (tkL ts) (p:Int) f t b a tl rp lv=some (howM first (ts.drop p),gst ts (p+(if howM first (ts.drop p)=0 then 0 else 1)) f t b a tl rp lv):=by
 unfold zla howM;rw[ju h hp,ze];cases h1:hdW [67,72,65,82,65,67,84,69,82,83] (ts.drop p)with
 |true=>rfl
 |false=>
  dsimp only;rw[cond_false,show p+Bool.toNat false=p from rfl,ju h hp,ze];cases h2:hdW [65,76,76] (ts.drop p)with
  |true=>rfl
  |false=>
   dsimp only;rw[cond_false,show p+Bool.toNat false=p from rfl,ju h hp,ze];cases h3:hdW [76,69,65,68,73,78,71] (ts.drop p)with
   |true=>rfl
   |false=>
    dsimp only;rw[cond_false,show p+Bool.toNat false=p from rfl];cases first with
    |false=>rfl
    |true=>rw[cond_true,ju h hp,ze];cases h4:hdW [70,73,82,83,84] (ts.drop p)<;>rfl
theorem zue{first:Bool}{j:List Token}(h:howM first j≠0):j≠[]:=by intro e;subst e;apply h;cases first<;>rfl
def qh(by_:Bool)(j:List Token):Bool:=decide ((opd j).2=0)&&(by_||!(nmT (j.take (opd j).1) 0&&hdW [70,79,82] (j.drop (opd j).1)))
theorem zum(h:Cx N ts)(hp:p<=ts.length)(by_:Bool):
  zg4 N by_ (tkL ts) (p:Int) f t b a tl rp lv=some (qh by_ (ts.drop p),gst ts p f t b a tl rp lv):=by
 have B:=Qz (p:=p) h;unfold zg4 qh;rw[Js h hp,ze];by_cases j:(opd (ts.drop p)).2=0
 ·rw[if_pos j,decide_eq_true j,uAc];dsimp only;rw[cond_true,zfr (fun u y=>h.hw u (List.mem_of_mem_drop (uAy y))),ze];cases hm:nmT ((ts.drop p).take (opd (ts.drop p)).1) 0 with
  |true=>rw[cond_true,ju h (by omega),ze,mT];unfold J9;dsimp only;cases by_<;>rfl
  |false=>rw[cond_false];unfold J9;cases by_<;>rfl
 ·rw[if_neg j,decide_eq_false j,uAq];rfl
end Go.Proofs.C06
end
section
set_option maxRecDepth 100000
namespace Go.Proofs.C06
open Go Go.RowKit Go.Vc Go.Am
abbrev Lv:=List (List Token)
def nextM(ts:List Token)(p:Nat)(L:Lv):Int×Bool×Nat×Lv:=if(opd (ts.drop p)).2=0 then((L.length:Int),true,p+(opd (ts.drop p)).1,L++[(ts.drop p).take (opd (ts.drop p)).1])else(-1,false,p,L)
def q8(ts:List Token)(p:Nat):Nat:=p+(hdW [73,78,73,84,73,65,76] (ts.drop p)).toNat
def yF(ts:List Token):Nat->Int->Int->Nat->Lv->Int×Int×Bool×Nat×Lv
 |0,x,y,p,L=>(x,y,true,p,L)
 |k+1,x,y,p,L=>if x<0/\hdW [66,69,70,79,82,69] (ts.drop p)=true then(if(nextM ts (q8 ts (p+1)) L).2.1 then yF ts k (nextM ts (q8 ts (p+1)) L).1 y (nextM ts (q8 ts (p+1)) L).2.2.1 (nextM ts (q8 ts (p+1)) L).2.2.2 else(-1,-1,false,(nextM ts (q8 ts (p+1)) L).2.2.1,(nextM ts (q8 ts (p+1)) L).2.2.2))else if y<0/\hdW [65,70,84,69,82] (ts.drop p)=true then(if(nextM ts (q8 ts (p+1)) L).2.1 then yF ts k x (nextM ts (q8 ts (p+1)) L).1 (nextM ts (q8 ts (p+1)) L).2.2.1 (nextM ts (q8 ts (p+1)) L).2.2.2 else(-1,-1,false,(nextM ts (q8 ts (p+1)) L).2.2.1,(nextM ts (q8 ts (p+1)) L).2.2.2))else(x,y,true,p,L)
def Ok2(ts:List Token)(p:Nat)(L:Lv)(j:Nat)(L':Lv):Prop:=p<=j/\j<=ts.length/\L'.length+p<=j+L.length/\∃M,L'=L++M
theorem Ok2.refl{ts:List Token}{p:Nat}{L:Lv}(hp:p<=ts.length):Ok2 ts p L p L:=⟨mA _,hp,by omega,[],(mM L).symm⟩
theorem Ok2.trans{ts:List Token}{p q r:Nat}{L M K:Lv}(j:Ok2 ts p L q M)(y:Ok2 ts q M r K):Ok2 ts p L r K:=by obtain⟨Z,U,I,A,rfl⟩:=j;obtain⟨O,H,J,B,rfl⟩:=y;exact⟨by omega,H,by omega,A++B,by rw[mB]⟩
theorem Ok2.step{ts:List Token}{p q r:Nat}{L M:Lv}(y:p<=q)(j:Ok2 ts q L r M):Ok2 ts p L r M:=⟨by have:=j.1;omega,j.2.1,by have:=j.2.2.1;omega,j.2.2.2⟩
theorem Ok2.len{ts:List Token}{p q:Nat}{L M:Lv}(h:Ok2 ts p L q M)(j:L.length<=p):M.length<=q:=by have:=h.2.2.1;omega
variable {N : Nat} {ts : List Token} {p : Nat} {f t b a : Int} {tl rp : List AV} {L : Lv}
theorem Z9{s:uAS}(h:hdW s (ts.drop p)=true):p<ts.length:=by apply Nat.lt_of_not_le;intro j;rw[nS j]at h;cases h
theorem zi2(hp:p<=ts.length):p<=q8 ts p/\q8 ts p<=ts.length:=by
 unfold q8;cases h:hdW [73,78,73,84,73,65,76] (ts.drop p)with
 |false=>exact⟨mA _,hp⟩
 |true=>have:=Z9 h;exact⟨Nat.le_add_right _ _,this⟩
theorem qg(h:Cx N ts)(hp:p<=ts.length):Ok2 ts p L (nextM ts p L).2.2.1 (nextM ts p L).2.2.2:=by
 have:=Qz (p:=p) h;unfold nextM;by_cases j:(opd (ts.drop p)).2=0
 ·have:=XB j;rw[if_pos j];exact⟨by dsimp only;omega,by dsimp only;omega,by dsimp only;rw[kW,mF];omega,_,rfl⟩
 ·rw[if_neg j];exact Ok2.refl hp
theorem zkF(j:(nextM ts p L).2.1=true):p<(nextM ts p L).2.2.1:=by
 unfold nextM at j⊢;by_cases y:(opd (ts.drop p)).2=0
 ·rw[if_pos y];have:=XB y;dsimp only;omega
 ·rw[if_neg y]at j;cases j
theorem zcC(j:(nextM ts p L).2.1=true):0<=(nextM ts p L).1:=by
 unfold nextM at j⊢;by_cases y:(opd (ts.drop p)).2=0
 ·rw[if_pos y];dsimp only;omega
 ·rw[if_neg y]at j;cases j
abbrev gs(ts:List Token)(f t b a:Int)(tl rp:List AV)(p:Nat)(L:Lv):List AV×Int×Int×Int×Int×Int×List AV×List AV×List AV:=gst ts p f t b a tl rp (L.map lfR)
theorem za4(h:Cx N ts)(hp:p<=ts.length)(y:L.length<=p):
  Jt N (tkL ts) (p:Int) f t b a tl rp (L.map lfR)=some ((nextM ts p L).1,(nextM ts p L).2.1,gs ts f t b a tl rp (nextM ts p L).2.2.1 (nextM ts p L).2.2.2):=by
 rw[zul h hp (by rw[mE];have:=h.hl;omega)];unfold nextM;by_cases j:(opd (ts.drop p)).2=0
 ·rw[if_pos j,if_pos j,mE];simp only[gs,mZ,nO,uAA]
 ·rw[if_neg j,if_neg j]
abbrev LTy:=Int×Int×Bool×List AV×Int×Int×Int×Int×Int×List AV×List AV×List AV
def zkN(ts:List Token)(f t b a:Int)(tl rp:List AV)(r:Int×Int×Bool×Nat×Lv):LTy:=(r.1,r.2.1,r.2.2.1,gs ts f t b a tl rp r.2.2.2.1 r.2.2.2.2)
theorem JK(h:Cx N ts){k n:Nat}{x y:Int}(hp:p<=ts.length)(h3:L.length<=p)
  (ih:∀(q:Nat)(M:Lv)(O U:Int),q<=ts.length->M.length<=q->(O<0->x<0)->(U<0->y<0)->(0<=O/\x<0\/0<=U/\y<0)->zP N n (.inr (tkL ts,(q:Int),f,t,b,a,O,U,tl,rp,M.map lfR))=some (zkN ts f t b a tl rp (yF ts k O U q M))):
  zP N (n+1) (.inr (tkL ts,(p:Int),f,t,b,a,x,y,tl,rp,L.map lfR))=some (zkN ts f t b a tl rp (yF ts (k+1) x y p L))/\
  (x= -1->y= -1->zP N (n+1) (.inl (tkL ts,(p:Int),f,t,b,a,tl,rp,L.map lfR,-1,-1))=some (zkN ts f t b a tl rp (yF ts (k+1) x y p L))):=by
 have tail:x<0/\hdW [66,69,70,79,82,69] (ts.drop p)=true\/¬(x<0/\hdW [66,69,70,79,82,69] (ts.drop p)=true):=Classical.em _;have k1:∀(B:x<0),hdW [66,69,70,79,82,69] (ts.drop p)=true->YO N (zP N n) (tkL ts) ((p+1:Nat):Int) f t b a x y tl rp (L.map lfR)=some (zkN ts f t b a tl rp (yF ts (k+1) x y p L)):=by
  intro B j;have Z:=Z9 j;have J:=zi2 (ts:=ts) (p:=p+1) (by omega);have hk:=qg (L:=L) h J.2;unfold YO yF;rw[ju h (by omega),ze];dsimp only;rw[show p+1+(hdW [73,78,73,84,73,65,76] (ts.drop (p+1))).toNat=q8 ts (p+1)from rfl,za4 h J.2 (by omega),ze,if_pos ⟨B,j⟩];dsimp only;cases he:(nextM ts (q8 ts (p+1)) L).2.1 with
  |false=>rw[if_neg (by simp)];rfl
  |true=>rw[if_pos rfl,mP,cond_false];exact ih _ _ _ _ hk.2.1 (hk.len (by omega)) (fun hh=>by have:=zcC he;omega) (fun hh=>hh) (.inl ⟨zcC he,B⟩)
 have I:∀(_:¬(x<0/\hdW [66,69,70,79,82,69] (ts.drop p)=true)),qJ N (zP N n) false (tkL ts) (p:Int) f t b a x y tl rp (L.map lfR)=some (zkN ts f t b a tl rp (yF ts (k+1) x y p L)):=by
  intro hnx;unfold qJ yF;rw[cond_false,if_neg hnx];by_cases H:y<0
  ·rw[decide_eq_true H,cond_true,ju h hp,ze];dsimp only;cases j:hdW [65,70,84,69,82] (ts.drop p)with
   |false=>rw[cond_false,if_neg (by simp)];rfl
   |true=>
    have Z:=Z9 j;have J:=zi2 (ts:=ts) (p:=p+1) (by omega);have hk:=qg (L:=L) h J.2;rw[cond_true,if_pos ⟨H,rfl⟩];unfold ZB;rw[show p+Bool.toNat true=p+1 from rfl,ju h (by omega),ze];dsimp only;rw[show p+1+(hdW [73,78,73,84,73,65,76] (ts.drop (p+1))).toNat=q8 ts (p+1)from rfl,za4 h J.2 (by omega),ze];dsimp only;cases he:(nextM ts (q8 ts (p+1)) L).2.1 with
    |false=>rw[if_neg (by simp)];rfl
    |true=>rw[if_pos rfl,mP,cond_false];exact ih _ _ _ _ hk.2.1 (hk.len (by omega)) (fun hh=>hh) (fun hh=>by have:=zcC he;omega) (.inr ⟨zcC he,H⟩)
  ·rw[decide_eq_false H,cond_false,if_neg (fun hh=>H hh.1)];rfl
 refine⟨?_,fun B H=>?_⟩
 ·show JI N (zP N n) _ _ _ _ _ _ _ _ _ _ _=_;unfold JI;by_cases B:x<0
  ·rw[decide_eq_true B,cond_true,ju h hp,ze];dsimp only;cases j:hdW [66,69,70,79,82,69] (ts.drop p)with
   |true=>exact k1 B j
   |false=>exact I (by rw[j];simp)
  ·rw[decide_eq_false B,cond_false];exact I fun hh=>B hh.1
 ·subst B;subst H;show JJ N (zP N n) _ _ _ _ _ _ _ _ _ _ _=_;unfold JJ;rw[decide_eq_true (by decide),cond_true,ju h hp,ze];dsimp only;cases j:hdW [66,69,70,79,82,69] (ts.drop p)with
  |true=>exact k1 (by decide) j
  |false=>exact I (by rw[j];simp)
theorem zqk(h:Cx N ts){n:Nat}{x y:Int}(hp:p<=ts.length)(B:L.length<=p)(U:0<=x)(I:0<=y)(k:Nat):
  zP N (n+1) (.inr (tkL ts,(p:Int),f,t,b,a,x,y,tl,rp,L.map lfR))=some (zkN ts f t b a tl rp (yF ts (k+1) x y p L)):=
 (JK (k:=k) h hp B (fun q M J Z _ _ H O j=>by rcases j with j|j<;>omega)).1
theorem zql(h:Cx N ts){n:Nat}{x y:Int}(hp:p<=ts.length)(H:L.length<=p)(B:0<=x\/0<=y)(k:Nat):
  zP N (n+2) (.inr (tkL ts,(p:Int),f,t,b,a,x,y,tl,rp,L.map lfR))=some (zkN ts f t b a tl rp (yF ts (k+2) x y p L)):=
 (JK (k:=k+1) h hp H (fun q M U y' J I O Z j=>zqk h J I (by rcases j with j|j<;>omega) (by rcases j with j|j<;>omega) k)).1
theorem zfs(h:Cx N ts)(hp:p<=ts.length)(y:L.length<=p):
  YP N (tkL ts) (p:Int) f t b a tl rp (L.map lfR)=some (zkN ts f t b a tl rp (yF ts 3 (-1) (-1) p L)):=by
 have O:=h.hN;unfold YP;obtain⟨n,I⟩:∃n,N=n+3:=⟨N-3,by omega⟩
 rw[show zP N N=zP N (n+2+1)by rw[<-I]];exact (JK (k:=2) h hp y (fun q M U y' H B J Z j=>zql h H B (by rcases j with j|j<;>omega) 0)).2 rfl rfl
theorem zd4(h:Cx N ts):∀(k:Nat)(x y:Int)(p:Nat)(L:Lv),p<=ts.length->Ok2 ts p L (yF ts k x y p L).2.2.2.1 (yF ts k x y p L).2.2.2.2
 |0,_,_,_,_,hp=>Ok2.refl hp
 |k+1,x,y,p,L,hp=>by
  have st:∀s:uAS,hdW s (ts.drop p)=true->Ok2 ts p L (nextM ts (q8 ts (p+1)) L).2.2.1 (nextM ts (q8 ts (p+1)) L).2.2.2:=fun s B=>by have H:=Z9 B;have I:=zi2 (ts:=ts) (p:=p+1) (by omega);exact Ok2.step (by omega) (qg (L:=L) h I.2)
  unfold yF;split
  ·rename_i B;have j:=st _ B.2;split
   ·exact j.trans (zd4 h k _ _ _ _ j.2.1)
   ·exact j
  ·split
   ·rename_i B;have j:=st _ B.2;split
    ·exact j.trans (zd4 h k _ _ _ _ j.2.1)
    ·exact j
   ·exact Ok2.refl hp
end Go.Proofs.C06
end
section
set_option maxRecDepth 100000
namespace Go.Proofs.C06
open Go Go.RowKit Go.Vc Go.Am
def rlV(r:Rule):AV:=.agg [.int .i64 r.uD,.int .u8 r.uC,.int .i64 r.uE,.int .i64 r.By,.int .i64 r.uK,.int .i64 r.uI]
abbrev OTy:=Rule×Bool×Nat×Lv
def ZA(ts:List Token)(count how:Int)(p:Nat)(L:Lv):OTy:=if how=1 then(⟨count,how,-1,-1,0,0⟩,true,p,L)else(⟨count,how,(nextM ts p L).1,-1,0,0⟩,(nextM ts p L).2)
def KB(ts:List Token)(by_:Bool)(r:OTy):OTy:=if r.2.1=true/\by_=true then(if hdW [66,89] (ts.drop r.2.2.1)then(⟨r.1.uD,r.1.uC,r.1.uE,(nextM ts (r.2.2.1+1) r.2.2.2).1,r.1.uK,r.1.uI⟩,(nextM ts (r.2.2.1+1) r.2.2.2).2)else(r.1,false,r.2.2))else r
def zb4(ts:List Token)(r:OTy):OTy:=if r.2.1 then(⟨r.1.uD,r.1.uC,r.1.uE,r.1.By,(yF ts 3 (-1) (-1) r.2.2.1 r.2.2.2).1,(yF ts 3 (-1) (-1) r.2.2.1 r.2.2.2).2.1⟩,(yF ts 3 (-1) (-1) r.2.2.1 r.2.2.2).2.2)else r
def qG(ts:List Token)(count how:Int)(by_:Bool)(p:Nat)(L:Lv):OTy:=zb4 ts (KB ts by_ (ZA ts count how p L))
abbrev RuT:=List Rule×Bool×Nat×Lv
def j3(ts:List Token)(count how:Int)(by_:Bool):Nat->List Rule->Nat->Lv->RuT
 |0,_,p,L=>([],false,p,L)
 |k+1,out,p,L=>if(qG ts count how by_ p L).2.1 then(if how=1\/qh by_ (ts.drop (qG ts count how by_ p L).2.2.1)=false then(out++[(qG ts count how by_ p L).1],true,(qG ts count how by_ p L).2.2)else j3 ts count how by_ k (out++[(qG ts count how by_ p L).1]) (qG ts count how by_ p L).2.2.1 (qG ts count how by_ p L).2.2.2)else([],false,(qG ts count how by_ p L).2.2)
variable {N : Nat} {ts : List Token} {p : Nat} {f t b a : Int} {tl rp : List AV} {L : Lv}
theorem zo1(h:Cx N ts){count how:Int}(hp:p<=ts.length):Ok2 ts p L (ZA ts count how p L).2.2.1 (ZA ts count how p L).2.2.2:=by
 unfold ZA;split
 ·exact Ok2.refl hp
 ·exact qg h hp
theorem zo3(h:Cx N ts){by_:Bool}{r:OTy}(j:Ok2 ts p L r.2.2.1 r.2.2.2):Ok2 ts p L (KB ts by_ r).2.2.1 (KB ts by_ r).2.2.2:=by
 unfold KB;split
 ·split
  ·rename_i y;have:=Z9 y;exact j.trans (Ok2.step (Nat.le_succ _) (qg h this))
  ·exact j
 ·exact j
theorem zo2(h:Cx N ts){r:OTy}(j:Ok2 ts p L r.2.2.1 r.2.2.2):Ok2 ts p L (zb4 ts r).2.2.1 (zb4 ts r).2.2.2:=by
 unfold zb4;split
 ·exact j.trans (zd4 h _ _ _ _ _ j.2.1)
 ·exact j
theorem zyo(h:Cx N ts){count how:Int}{by_:Bool}(hp:p<=ts.length):Ok2 ts p L (qG ts count how by_ p L).2.2.1 (qG ts count how by_ p L).2.2.2:=
 zo2 h (zo3 h (zo1 h hp))
theorem zyp(h:Cx N ts){count how:Int}{by_:Bool}(hp:p<=ts.length)(hh:how≠1)(ho:(qG ts count how by_ p L).2.1=true):p<(qG ts count how by_ p L).2.2.1:=by
 have j:(KB ts by_ (ZA ts count how p L)).2.1=true:=by
  unfold qG zb4 at ho;by_cases e:(KB ts by_ (ZA ts count how p L)).2.1=true
  ·exact e
  ·rw[if_neg e]at ho;exact absurd ho e
 have y:(ZA ts count how p L).2.1=true:=by
  by_cases e:(ZA ts count how p L).2.1=true
  ·exact e
  ·unfold KB at j;rw[if_neg (fun x=>e x.1)]at j;exact absurd j e
 have B:ZA ts count how p L=(⟨count,how,(nextM ts p L).1,-1,0,0⟩,(nextM ts p L).2):=by unfold ZA;rw[if_neg hh]
 have H:(nextM ts p L).2.1=true:=by rw[B]at y;exact y
 have I:Ok2 ts (ZA ts count how p L).2.2.1 (ZA ts count how p L).2.2.2 (ZA ts count how p L).2.2.1 (ZA ts count how p L).2.2.2:=Ok2.refl (zo1 h hp).2.1;have:=(zo2 h (zo3 h (by_:=by_) I)).1;have J:p<(ZA ts count how p L).2.2.1:=by rw[B];exact zkF H
 show p<(zb4 ts (KB ts by_ (ZA ts count how p L))).2.2.1;omega
theorem zhU(R:List Rule)(r:Rule):R.map rlV++[.agg [.int .i64 r.uD,.int .u8 r.uC,.int .i64 r.uE,.int .i64 r.By,.int .i64 r.uK,.int .i64 r.uI]]=(R++[r]).map rlV:=by rw[mZ];rfl
abbrev zBy:=List AV×Bool×List AV×Int×Int×Int×Int×Int×List AV×List AV×List AV
def ruE(ts:List Token)(f t b a:Int)(tl rp:List AV)(r:RuT):zBy:=(r.1.map rlV,r.2.1,gs ts f t b a tl rp r.2.2.1 r.2.2.2)
def nxR(ts:List Token)(count how:Int)(by_:Bool)(k:Nat)(out:List Rule)(r:OTy):RuT:=if r.2.1 then(if how=1\/qh by_ (ts.drop r.2.2.1)=false then(out++[r.1],true,r.2.2)else j3 ts count how by_ k (out++[r.1]) r.2.2.1 r.2.2.2)else([],false,r.2.2)
section
variable {count how : Int} {by_ : Bool} {k n : Nat} {out : List Rule}
 (h:Cx N ts) (ho:out.length<=5000)
 (ih:∀(q:Nat)(M:Lv)(r:Rule),how≠1->p<q->q<=ts.length->M.length<=q->zD N n (.inr (count,how,by_,tkL ts,(q:Int),f,t,b,a,(out++[r]).map rlV,tl,rp,M.map lfR))=some (ruE ts f t b a tl rp (j3 ts count how by_ k (out++[r]) q M)))
include h ho ih
theorem QV{r:OTy}(hp:r.2.2.1<=ts.length)(B:r.2.2.2.length<=r.2.2.1)(y:how≠1->r.2.1=true->p<r.2.2.1):
  Za N (zD N n) count how by_ r.2.1 (tkL ts) (r.2.2.1:Int) f t b a (out.map rlV) r.1 tl rp (r.2.2.2.map lfR)=some (ruE ts f t b a tl rp (nxR ts count how by_ k out r)):=by
 obtain⟨H,ok,q,M⟩:=r;unfold Za nxR;dsimp only at hp B y⊢;cases ok with
 |false=>rfl
 |true=>
  rw[mP,cond_false,if_pos rfl,zhU,JH (by rw[mE,kW,mF];omega),za];by_cases j:how=1
  ·rw[decide_eq_true j,cond_true,if_pos (.inl j)];rfl
  ·rw[decide_eq_false j,cond_false,zum h hp,ze];dsimp only;cases hm:qh by_ (ts.drop q)with
   |false=>rw[nT,cond_true,if_pos (.inr rfl)];rfl
   |true=>rw[mP,cond_false,if_neg (by simp[j])];exact ih q M H j (y j rfl) hp B
theorem qp{r:OTy}(hp:r.2.2.1<=ts.length)(B:r.2.2.2.length<=r.2.2.1)(j:how≠1->r.2.1=true->p<r.2.2.1):
  y6 N (zD N n) count how by_ r.2.1 (tkL ts) (r.2.2.1:Int) f t b a (out.map rlV) r.1 tl rp (r.2.2.2.map lfR)=some (ruE ts f t b a tl rp (nxR ts count how by_ k out (zb4 ts r))):=by
 obtain⟨y,ok,q,M⟩:=r;unfold y6 zb4;dsimp only at hp B j⊢;cases ok with
 |false=>rw[cond_false,if_neg (by simp)];exact QV h ho ih (r:=(y,false,q,M)) hp B (fun _ e=>by cases e)
 |true=>have H:=zd4 (N:=N) h 3 (-1) (-1) q M hp;rw[cond_true,if_pos rfl,zfs h hp B,ze];exact QV h ho ih (r:=(⟨y.uD,y.uC,y.uE,y.By,(yF ts 3 (-1) (-1) q M).1,(yF ts 3 (-1) (-1) q M).2.1⟩,(yF ts 3 (-1) (-1) q M).2.2)) H.2.1 (H.len B) (fun e _=>by have:=j e rfl;have:=H.1;dsimp only;omega)
theorem QW{r:OTy}(hp:r.2.2.1<=ts.length)(B:r.2.2.2.length<=r.2.2.1)(j:how≠1->r.2.1=true->p<r.2.2.1):
  Zb N (zD N n) count how by_ r.2.1 (tkL ts) (r.2.2.1:Int) f t b a (out.map rlV) r.1 tl rp (r.2.2.2.map lfR)=some (ruE ts f t b a tl rp (nxR ts count how by_ k out (zb4 ts (KB ts by_ r)))):=by
 obtain⟨y,ok,q,M⟩:=r;unfold Zb Jr KB;dsimp only at hp B j⊢;cases ok with
 |false=>rw[cond_false,cond_false,if_neg (by simp)];exact qp h ho ih (r:=(y,false,q,M)) hp B j
 |true=>
  rw[cond_true];cases hb:by_ with
  |false=>rw[cond_false,if_neg (by simp)];subst hb;exact qp h ho ih (r:=(y,true,q,M)) hp B j
  |true=>
   subst hb;rw[cond_true,if_pos ⟨rfl,rfl⟩,ju h hp,ze];dsimp only;cases hw:hdW [66,89] (ts.drop q)with
   |false=>rw[cond_false,if_neg (by simp)];exact qp h ho ih (r:=(y,false,q,M)) hp B (fun _ e=>by cases e)
   |true=>have I:=Z9 hw;have H:=qg (L:=M) h (p:=q+1) I;rw[cond_true,if_pos rfl,show q+Bool.toNat true=q+1 from rfl,za4 h I (by omega),ze];exact qp h ho ih (r:=(⟨y.uD,y.uC,y.uE,(nextM ts (q+1) M).1,y.uK,y.uI⟩,(nextM ts (q+1) M).2)) H.2.1 (H.len (by omega)) (fun e _=>by have:=j e rfl;have:=H.1;dsimp only;omega)
theorem zi8(hp:p<=ts.length)(y:L.length<=p):
  zD N (n+1) (.inr (count,how,by_,tkL ts,(p:Int),f,t,b,a,out.map rlV,tl,rp,L.map lfR))=some (ruE ts f t b a tl rp (j3 ts count how by_ (k+1) out p L)):=by
 show qo N (zD N n) _ _ _ _ _ _ _ _ _ _ _ _ _=some (ruE ts f t b a tl rp (nxR ts count how by_ k out (qG ts count how by_ p L)));unfold qo qG ZA;by_cases j:how=1
 ·rw[decide_eq_true j,mP,cond_false,if_pos j];exact QW h ho ih (r:=(⟨count,how,-1,-1,0,0⟩,true,p,L)) hp y (fun e=>absurd j e)
 ·have B:=qg (L:=L) h hp;rw[decide_eq_false j,nT,cond_true,if_neg j,za4 h hp y,ze];exact QW h ho ih (r:=(⟨count,how,(nextM ts p L).1,-1,0,0⟩,(nextM ts p L).2)) B.2.1 (B.len y) (fun _ e=>zkF e)
end
end Go.Proofs.C06
end
section
set_option maxRecDepth 100000
namespace Go.Proofs.C06
open Go Go.RowKit Go.Vc Go.Am
variable {N : Nat} {ts : List Token} {p : Nat} {f t b a : Int} {tl rp : List AV} {L : Lv}
theorem zbI(h:Cx N ts){count how:Int}{by_:Bool}:∀(k n:Nat)(out:List Rule)(p:Nat)(L:Lv),p<=ts.length->L.length<=p->out.length<=p->ts.length-p<k->k<=n->
  zD N n (.inr (count,how,by_,tkL ts,(p:Int),f,t,b,a,out.map rlV,tl,rp,L.map lfR))=some (ruE ts f t b a tl rp (j3 ts count how by_ k out p L))
 |0,_,_,_,_,_,_,_,hk,_=>by omega
 |k+1,n,out,p,L,hp,h3,ho,hk,hn=>by
  obtain⟨n,rfl⟩:∃m,n=m+1:=⟨n-1,by omega⟩
  have H:=h.hl;exact zi8 h (by omega) (fun q M r _ B j y=>zbI h k n (out++[r]) q M j y (by rw[kW,mF];omega) (by omega) (by omega)) hp h3
theorem zm4{n:Nat}{count how:Int}{by_:Bool}{l lv:List AV}{p:Int}:
  zD N (n+1) (.inl (count,how,by_,l,p,f,t,b,a,tl,rp,lv))=zD N (n+1) (.inr (count,how,by_,l,p,f,t,b,a,[],tl,rp,lv)):=by
 show YM N (zD N n) _ _ _ _ _ _ _ _ _ _ _ _=qo N (zD N n) _ _ _ _ _ _ _ _ _ _ _ _ _;unfold YM qo;cases decide (how=1)<;>rfl
def zS(ts:List Token)(count how:Int)(by_:Bool)(p:Nat)(L:Lv):RuT:=j3 ts count how by_ (ts.length+1) [] p L
theorem zg2(h:Cx N ts){count how:Int}{by_:Bool}(hp:p<=ts.length)(j:L.length<=p):
  zfp N count how by_ (tkL ts) (p:Int) f t b a tl rp (L.map lfR)=some (ruE ts f t b a tl rp (zS ts count how by_ p L)):=by
 have B:=h.hN;have H:=h.hl;unfold zfp;obtain⟨n,y⟩:∃n,N=n+1:=⟨N-1,by omega⟩
 rw[show zD N N=zD N (n+1)by rw[<-y],zm4];exact zbI h (ts.length+1) (n+1) [] p L hp j (nL _) (by omega) (by omega)
theorem zmF{count how:Int}{by_:Bool}:(qG ts count how by_ p L).1.uD=count:=by
 unfold qG zb4 KB ZA
 (repeat' split)<;>rfl
theorem Xq(h:Cx N ts){count how:Int}{by_:Bool}:∀(k:Nat)(out:List Rule)(p:Nat)(L:Lv),p<=ts.length->
  Ok2 ts p L (j3 ts count how by_ k out p L).2.2.1 (j3 ts count how by_ k out p L).2.2.2/\
  ((j3 ts count how by_ k out p L).2.1=true->∃new,(j3 ts count how by_ k out p L).1=out++new/\(∀x∈new,x.uD=count)/\new.length+p<=(j3 ts count how by_ k out p L).2.2.1+1)
 |0,_,_,_,hp=>⟨Ok2.refl hp,fun e=>by cases e⟩
 |k+1,out,p,L,hp=>by
  have y:=zyo (L:=L) h (count:=count) (how:=how) (by_:=by_) hp;have hc:=zmF (ts:=ts) (p:=p) (L:=L) (count:=count) (how:=how) (by_:=by_);have B:=zyp (L:=L) h (count:=count) (how:=how) (by_:=by_) hp;unfold j3;by_cases ho:(qG ts count how by_ p L).2.1=true
  ·rw[if_pos ho];by_cases H:how=1\/qh by_ (ts.drop (qG ts count how by_ p L).2.2.1)=false
   ·rw[if_pos H];exact⟨y,fun _=>⟨[_],rfl,fun x j=>by rw[mD]at j;subst j;exact hc,by have:=y.1;dsimp only;simp only[mF];omega⟩⟩
   ·rw[if_neg H];obtain⟨O,U⟩:=Xq h (count:=count) (how:=how) (by_:=by_) k (out++[(qG ts count how by_ p L).1]) _ (qG ts count how by_ p L).2.2.2 y.2.1;refine⟨y.trans O,fun e=>?_⟩;obtain⟨new,J,I,Z⟩:=U e;have B:=B (fun e=>H (.inl e)) ho;exact⟨_::new,by rw[J,mB];rfl,fun x j=>by
     rcases mS.1 j with rfl|j
     ·exact hc
     ·exact I x j,by rw[mC];omega⟩
  ·rw[if_neg ho];exact⟨y,fun e=>by cases e⟩
def ktT(t:Token):Int×uAS:=(t.uG,t.uH)
def zeu(x y:List Token):Bool:=decide (x.map ktT=y.map ktT)
theorem zfB{x y:List Token}(Z:x.length<=1000)(O:x.length=y.length):∀(k i:Nat),i<=x.length->x.length-i<k->Q7 N k (tkL y) (tkL x) (x.length:Int) (i:Int)=some (decide ((x.drop i).map ktT=(y.drop i).map ktT))
 |0,_,_,h=>by omega
 |k+1,i,hi,hk=>by
  show KQ N (Q7 N k) (tkL y) (tkL x) (x.length:Int) (i:Int)=_;unfold KQ;by_cases h:i<x.length
  ·have U:x[i]? =some x[i]:=kZ h;have j:y[i]? =some (y[i]'(by omega)):=kZ (by omega);have I:=zei U;have H:=zei j;unfold zj4 at I H;rw[decide_eq_true (show(i:Int)<(x.length:Int)by omega),cond_true,I,za,H,za,Qd U,Qd j,nH h,nH (show i<y.length by omega)];show bnd (zhC N x[i] (y[i]'(by omega))) _=_;generalize x[i]=u;generalize y[i]'(by omega)=v;unfold zhC;by_cases B:u.uG=v.uG
   ·rw[decide_eq_true B,cond_true,ze];by_cases J:u.uH=v.uH
    ·rw[decide_eq_true J,mP,cond_false,yu (by omega) (by omega),za];refine(zfB Z O k (i+1) (by omega) (by omega)).trans ?_;refine congrArg some (decide_eq_decide.2 ?_);simp[ktT,B,J]
    ·rw[decide_eq_false J,nT,cond_true,decide_eq_false (by simp[ktT,B,J])]
   ·rw[decide_eq_false B,cond_false,ze,nT,cond_true,decide_eq_false (by simp[ktT,B])]
  ·rw[decide_eq_false (show¬(i:Int)<(x.length:Int)by omega),cond_false,nS (by omega),nS (by omega)];rfl
theorem zj8{x y:List Token}(j:x.length<=1000)(B:1100<N):zbp N (tkL x) (tkL y)=some (zeu x y):=by
 unfold zbp zuB zeu;rw[z8,z8];by_cases h:x.length=y.length
 ·rw[decide_eq_true (by omega),mP,cond_false];have:=zfB (N:=N) j h N 0 (by omega) (by omega);rw[show((0:Int))=((0:Nat):Int)from rfl,this];rfl
 ·rw[decide_eq_false (by omega),nT,cond_true,decide_eq_false];rfl;intro e;have:=congrArg List.length e;rw[mE,mE]at this;exact h this
def fndC(L:Lv)(l:List Token):List Rule->Option Int
 |[]=>none
 |r::j=>if zeu (L.getD r.uD.toNat []) l then some r.uD else fndC L l j
def opP(ts:List Token)(p:Nat):Nat:=p+(opd (ts.drop p)).1
def opL(ts:List Token)(p:Nat):List Token:=(ts.drop p).take (opd (ts.drop p)).1
def zju(ts:List Token)(p:Nat):Bool:=decide ((opd (ts.drop p)).2=0)&&(nmT (opL ts p) 0&&hdW [70,79,82] (ts.drop (opP ts p)))
def jC(ts:List Token)(R:List Rule)(p:Nat)(L:Lv):Int×Bool×Nat×Lv:=
 if zju ts p then(match fndC L (opL ts p) R with
  |some c=>(c,true,opP ts p+1,L)
  |none=>((L.length:Int),true,opP ts p+1,L++[opL ts p]))
 else(-1,false,p,L)
def CtOk(R:List Rule)(L:Lv):Prop:=∀r∈R,0<=r.uD/\r.uD<L.length
theorem CtOk.grow{R:List Rule}{L M:Lv}(h:CtOk R L)(y:L.length<=M.length):CtOk R M:=fun r j=>⟨(h r j).1,by have:=(h r j).2;omega⟩
theorem zth{R:List Rule}{i:Nat}{r:Rule}(h:R[i]? =some r):atV (R.map rlV) (i:Int)=rlV r:=by rw[Xh,mG,mX,h];rfl
theorem zt0{L:Lv}{i:Nat}(h:i<L.length):atV (L.map lfR) (i:Int)=lfR (L.getD i []):=by rw[Xh,mG,mX,mG,kZ h];rfl
theorem Kg(h:Cx N ts){R:List Rule}(hR:R.length<=1000)(hc:CtOk R L)(hL:L.length<=1000)(J:∀l∈L,l.length<=1000){l:List Token}(H:1<=l.length)(B:l.length<=1000):∀(k i:Nat),i<=R.length->R.length-i<k->
  Zc N k (tkL l) (R.length:Int) (i:Int) (tkL ts) (p:Int) f t b a (R.map rlV) rp (L.map lfR)=some (match fndC L l (R.drop i)with
   |some c=>(c,true,gs ts f t b a (R.map rlV) rp p L)
   |none=>((L.length:Int),true,gs ts f t b a (R.map rlV) rp p (L++[l])))
 |0,_,_,hk=>by omega
 |k+1,i,hi,hk=>by
  show JL N (Zc N k) (tkL l) (R.length:Int) (i:Int) (tkL ts) (p:Int) f t b a (R.map rlV) rp (L.map lfR)=_;unfold JL;by_cases y:i<R.length
  ·have hg:R[i]? =some R[i]:=kZ y;obtain⟨c1,c2⟩:=hc R[i] (uAz y);rw[nH y];have U:zw (i:Int) (R.map rlV).length=true:=zB.2 ⟨by omega,by rw[mE];omega⟩;rw[decide_eq_true (by omega),cond_true,zth hg,U,za];generalize R[i]=r at c1 c2;obtain⟨c,O⟩:∃c:Nat,r.uD=(c:Int):=⟨r.uD.toNat,by omega⟩
   have j:c<L.length:=by omega
   have hi4:zw ((c:Int)) (L.map lfR).length=true:=zB.2 ⟨by omega,by rw[mE];omega⟩;show chk true (chk (zw r.uD (L.map lfR).length) (chk (zw r.uD (L.map lfR).length&&KJ 5 (atV (L.map lfR) r.uD)) (bnd (zbp N (zkp (atV (L.map lfR) r.uD)) (tkL l)) fun Z=>cond Z (some (r.uD,_)) _)))=_;rw[za,O,hi4,za,zt0 j];show chk true (bnd (zbp N (tkL (L.getD c [])) (tkL l)) _)=_;have I:(L.getD c []).length<=1000:=by rw[mG,kZ j];exact J _ (uAz j)
   rw[za,zj8 I h.hN,ze];unfold fndC;rw[O,nA];cases hs:zeu (L.getD c []) l with
   |true=>rw[cond_true,if_pos rfl]
   |false=>rw[cond_false,yu (by omega) (by omega),za,if_neg (by simp)];exact Kg h hR hc hL J H B k (i+1) (by omega) (by omega)
  ·rw[decide_eq_false (by omega),cond_false,nS (by omega),zft H B (by rw[mE];exact hL),ze];unfold fndC;dsimp only;rw[mE];simp only[gs,mZ,nO,uAA]
theorem zcz(h:Cx N ts)(j:(opd (ts.drop p)).2=0):1<=(opL ts p).length/\(opL ts p).length<=1000:=by have H:=XB j;have y:=Qz (p:=p) h;have B:=h.hl;unfold opL;rw[mH,mL];omega
theorem zlb(h:Cx N ts){R:List Rule}(hp:p<=ts.length)(O:L.length<=p)(H:R.length<=1000)(hc:CtOk R L)(y:∀l∈L,l.length<=1000):
  Q0 N (tkL ts) (p:Int) f t b a (R.map rlV) rp (L.map lfR)=some ((jC ts R p L).1,(jC ts R p L).2.1,gs ts f t b a (R.map rlV) rp (jC ts R p L).2.2.1 (jC ts R p L).2.2.2):=by
 have J:=h.hl;have U:=Qz (p:=p) h;unfold Q0 jC zju;rw[Js h hp,ze];by_cases j:(opd (ts.drop p)).2=0
 ·rw[if_pos j,decide_eq_true j,uAc];dsimp only;rw[mP,cond_false,zfr (fun u I=>h.hw u (List.mem_of_mem_drop (uAy I))),ze];rw[show(ts.drop p).take (opd (ts.drop p)).1=opL ts p from rfl,show p+(opd (ts.drop p)).1=opP ts p from rfl];cases hm:nmT (opL ts p) 0 with
  |false=>rw[nT,cond_true,uAq,if_neg (by simp)];rfl
  |true=>
   rw[mP,cond_false,uAc,ju h (show opP ts p<=ts.length by unfold opP;omega),ze];dsimp only;cases hw:hdW [70,79,82] (ts.drop (opP ts p))with
   |false=>rw[if_neg (by simp)];rfl
   |true=>
    have B:=zcz h j;rw[if_pos rfl];unfold Zd;rw[mP,cond_false,mE,show opP ts p+Bool.toNat true=opP ts p+1 from rfl,show((0:Int))=((0:Nat):Int)from rfl,
     Kg h H hc (by omega) y B.1 B.2 N 0 (by omega) (by have:=h.hN;omega),uAe]
    cases fndC L (opL ts p) R<;>rfl
 ·rw[if_neg j,decide_eq_false j,uAq,if_neg (by simp)];rfl
theorem zpg{l:List Token}:∀{R:List Rule},CtOk R L->∀{c:Int},fndC L l R=some c->0<=c/\c<L.length
 |[],_,_,h=>by cases h
 |r::R,hc,c,h=>by
  unfold fndC at h;split at h
  ·cases h;exact hc r mV
  ·exact zpg (fun x j=>hc x (mU _ j)) h
theorem zyO(h:Cx N ts){R:List Rule}(hc:CtOk R L)(hp:p<=ts.length):Ok2 ts p L (jC ts R p L).2.2.1 (jC ts R p L).2.2.2/\
  ((jC ts R p L).2.1=true->p+2<=(jC ts R p L).2.2.1/\0<=(jC ts R p L).1/\(jC ts R p L).1<(jC ts R p L).2.2.2.length):=by
 have B:=Qz (p:=p) h;unfold jC;by_cases j:zju ts p=true
 ·rw[if_pos j];unfold zju at j;simp only[kY,decide_eq_true_eq]at j;have H:=XB j.1;have y:=Z9 j.2.2;cases hf:fndC L (opL ts p) R with
  |none=>dsimp only;unfold opP at y⊢;exact⟨⟨by omega,by omega,by rw[kW,mF];omega,_,rfl⟩,fun _=>⟨by omega,by omega,by rw[kW,mF];omega⟩⟩
  |some c=>dsimp only;unfold opP at y⊢;exact⟨⟨by omega,by omega,by omega,[],(mM L).symm⟩,fun _=>⟨by omega,zpg hc hf⟩⟩
 ·rw[if_neg j];exact⟨Ok2.refl hp,fun e=>by cases e⟩
end Go.Proofs.C06
end
section
set_option maxRecDepth 100000
namespace Go.Proofs.C06
open Go Go.RowKit Go.Vc Go.Am
def Zs(ts:List Token)(count:Int):Nat->Int->List Rule->Nat->Lv->Bool×List Rule×Nat×Lv
 |0,_,R,p,L=>(false,R,p,L)
 |k+1,how,R,p,L=>if 0<how then(if(zS ts count how false p L).2.1 then Zs ts count k (howM false (ts.drop (zS ts count how false p L).2.2.1)) (R++(zS ts count how false p L).1) ((zS ts count how false p L).2.2.1+(if howM false (ts.drop (zS ts count how false p L).2.2.1)=0 then 0 else 1)) (zS ts count how false p L).2.2.2 else(false,R,(zS ts count how false p L).2.2))else(true,R,p,L)
def JB(ts:List Token):Nat->Bool->List Rule->Nat->Lv->Bool×List Rule×Nat×Lv
 |0,_,R,p,L=>(false,R,p,L)
 |k+1,first,R,p,L=>if(jC ts R p L).2.1 then(if howM false (ts.drop (jC ts R p L).2.2.1)=0 then(false,R,(jC ts R p L).2.2)else if(Zs ts (jC ts R p L).1 (ts.length+2) (howM false (ts.drop (jC ts R p L).2.2.1)) R ((jC ts R p L).2.2.1+1) (jC ts R p L).2.2.2).1 then JB ts k false (Zs ts (jC ts R p L).1 (ts.length+2) (howM false (ts.drop (jC ts R p L).2.2.1)) R ((jC ts R p L).2.2.1+1) (jC ts R p L).2.2.2).2.1 (Zs ts (jC ts R p L).1 (ts.length+2) (howM false (ts.drop (jC ts R p L).2.2.1)) R ((jC ts R p L).2.2.1+1) (jC ts R p L).2.2.2).2.2.1 (Zs ts (jC ts R p L).1 (ts.length+2) (howM false (ts.drop (jC ts R p L).2.2.1)) R ((jC ts R p L).2.2.1+1) (jC ts R p L).2.2.2).2.2.2 else(false,(Zs ts (jC ts R p L).1 (ts.length+2) (howM false (ts.drop (jC ts R p L).2.2.1)) R ((jC ts R p L).2.2.1+1) (jC ts R p L).2.2.2).2))else(!first,R,(jC ts R p L).2.2)
def K8(ts:List Token):Nat->Int->List Rule->Nat->Lv->Bool×List Rule×Nat×Lv
 |0,_,R,p,L=>(false,R,p,L)
 |k+1,how,R,p,L=>if 0<how then(if(zS ts (-1) how true p L).2.1 then K8 ts k (howM true (ts.drop (zS ts (-1) how true p L).2.2.1)) (R++(zS ts (-1) how true p L).1) ((zS ts (-1) how true p L).2.2.1+(if howM true (ts.drop (zS ts (-1) how true p L).2.2.1)=0 then 0 else 1)) (zS ts (-1) how true p L).2.2.2 else(false,R,(zS ts (-1) how true p L).2.2))else(true,R,p,L)
variable {N : Nat} {ts : List Token} {p : Nat} {f t b a : Int} {tl rp : List AV} {L : Lv}
structure Iv(ts:List Token)(R:List Rule)(q:Nat)(L:Lv):Prop where
 p:q<=ts.length
 l:L.length<=q
 r:R.length<=q
 c:CtOk R L
 s:∀l∈L,l.length<=1000
theorem WW{first:Bool}(h:howM first (ts.drop p)≠0):p<ts.length:=by apply Nat.lt_of_not_le;intro j;exact zue h (nS j)
theorem zkY{first:Bool}(hp:p<=ts.length):p+(if howM first (ts.drop p)=0 then 0 else 1)<=ts.length:=by
 split
 ·exact hp
 ·rename_i h;exact WW h
theorem howM_cases(first:Bool)(j:List Token):howM first j=0\/0<howM first j:=by
 unfold howM
 (repeat' split)<;>simp
theorem zur:∀R:List Rule,(Zw (R.map rlV)).all zL=true
 |[]=>rfl
 |_::R=>zur R
def Sh(L:Lv):Prop:=∀l∈L,l.length<=1000
theorem zeZ(h:Cx N ts)(B:Sh L):Sh (nextM ts p L).2.2.2:=by
 unfold nextM;by_cases y:(opd (ts.drop p)).2=0
 ·rw[if_pos y];intro l j;rcases mQ.1 j with j|j
  ·exact B l j
  ·rw[mD]at j;subst j;exact (zcz h y).2
 ·rw[if_neg y];exact B
theorem ziO(h:Cx N ts):∀(k:Nat)(x y:Int)(p:Nat)(L:Lv),Sh L->Sh (yF ts k x y p L).2.2.2.2
 |0,_,_,_,_,hs=>hs
 |k+1,x,y,p,L,hs=>by
  have j:=zeZ (p:=q8 ts (p+1)) h hs;unfold yF;split
  ·split
   ·exact ziO h k _ _ _ _ j
   ·exact j
  ·split
   ·split
    ·exact ziO h k _ _ _ _ j
    ·exact j
   ·exact hs
theorem zyn(h:Cx N ts){count how:Int}{by_:Bool}(y:Sh L):Sh (qG ts count how by_ p L).2.2.2:=by
 have j:Sh (ZA ts count how p L).2.2.2:=by
  unfold ZA;split
  ·exact y
  ·exact zeZ h y
 have B:Sh (KB ts by_ (ZA ts count how p L)).2.2.2:=by
  unfold KB;split
  ·split
   ·exact zeZ h j
   ·exact j
  ·exact j
 unfold qG zb4;split
 ·exact ziO h _ _ _ _ _ B
 ·exact B
theorem zau(h:Cx N ts){count how:Int}{by_:Bool}:∀(k:Nat)(out:List Rule)(p:Nat)(L:Lv),Sh L->Sh (j3 ts count how by_ k out p L).2.2.2
 |0,_,_,_,hs=>hs
 |k+1,out,p,L,hs=>by
  have j:=zyn (p:=p) (count:=count) (how:=how) (by_:=by_) h hs;unfold j3;split
  ·split
   ·exact j
   ·exact zau h k _ _ _ j
  ·exact j
theorem zyN(h:Cx N ts){R:List Rule}(y:Sh L):Sh (jC ts R p L).2.2.2:=by
 unfold jC;split
 ·rename_i B;split
  ·exact y
  ·intro l j;rcases mQ.1 j with j|j
   ·exact y l j
   ·rw[mD]at j;subst j;unfold zju at B;simp only[kY,decide_eq_true_eq]at B;exact (zcz h B.1).2
 ·exact y
theorem Iv.rules(h:Cx N ts){R:List Rule}(B:Iv ts R p L){count how:Int}{by_:Bool}(hp:R.length+1<=p)(hc:count= -1\/(0<=count/\count<L.length)):
  (zS ts count how by_ p L).2.1=true->p<=(zS ts count how by_ p L).2.2.1/\(0<=count->Iv ts (R++(zS ts count how by_ p L).1) (zS ts count how by_ p L).2.2.1 (zS ts count how by_ p L).2.2.2)/\
   R.length+(zS ts count how by_ p L).1.length<=(zS ts count how by_ p L).2.2.1:=by
 intro e;obtain⟨y,Z⟩:=Xq h (count:=count) (how:=how) (by_:=by_) (ts.length+1) [] p L B.p;have U:=zau h (count:=count) (how:=how) (by_:=by_) (ts.length+1) [] p L B.s;obtain⟨new,e1,J,O⟩:=Z e;have I:(zS ts count how by_ p L).1=new:=e1;have e5:new.length+p<=(zS ts count how by_ p L).2.2.1+1:=O;refine⟨y.1,fun h0=>⟨y.2.1,y.len B.l,by rw[kW,I];omega,fun r j=>?_,U⟩,by rw[I];omega⟩;obtain⟨M,H⟩:=y.2.2.2;have H:(zS ts count how by_ p L).2.2.2=L++M:=H;rw[H,kW];rcases mQ.1 j with j|j
 ·have:=B.c r j;exact⟨this.1,by omega⟩
 ·rw[I]at j;rw[J r j];rcases hc with hc|hc
  ·omega
  ·exact⟨hc.1,by omega⟩
abbrev TTy:=Bool×List AV×Int×Int×Int×Int×Int×List AV×List AV×List AV
def tlE(ts:List Token)(f t b a:Int)(rp:List AV)(r:Bool×List Rule×Nat×Lv):TTy:=(r.1,gs ts f t b a (r.2.1.map rlV) rp r.2.2.1 r.2.2.2)
theorem Y4(h:Cx N ts){count:Int}(I:((Bool×List AV×Int×Int×Int×Int×Int×List AV×List AV×List AV)⊕(Bool×List AV×Int×Int×Int×Int×Int×List AV×List AV×List AV))->Option TTy):
  ∀(k n:Nat)(how:Int)(R:List Rule)(p:Nat)(L:Lv),Iv ts R p L->(0<how->R.length+1<=p)->0<=count->count<L.length->ts.length-p+1<k->k<=n->
  j7 N I n count how (tkL ts) (p:Int) f t b a (R.map rlV) rp (L.map lfR)=(if(Zs ts count k how R p L).1 then
   I (.inr (false,tkL ts,((Zs ts count k how R p L).2.2.1:Int),f,t,b,a,(Zs ts count k how R p L).2.1.map rlV,rp,(Zs ts count k how R p L).2.2.2.map lfR))
   else some (tlE ts f t b a rp (Zs ts count k how R p L)))/\
  ((Zs ts count k how R p L).1=true->Iv ts (Zs ts count k how R p L).2.1 (Zs ts count k how R p L).2.2.1 (Zs ts count k how R p L).2.2.2/\p<=(Zs ts count k how R p L).2.2.1)
 |0,_,_,_,_,_,_,_,_,_,hk,_=>by omega
 |k+1,n,how,R,p,L,hI,hR,c0,c1,hk,hn=>by
  obtain⟨n,rfl⟩:∃m,n=m+1:=⟨n-1,by omega⟩
  have hl:=h.hl;have e:j7 N I (n+1) count how (tkL ts) (p:Int) f t b a (R.map rlV) rp (L.map lfR)=Jc N I (j7 N I n) count how (tkL ts) (p:Int) f t b a (R.map rlV) rp (L.map lfR):=rfl;rw[e];unfold Jc Zs;by_cases O:0<how
  ·rw[decide_eq_true O,cond_true,if_pos O,zg2 h hI.p hI.l,ze];have U:=hI.rules (count:=count) (how:=how) (by_:=false) h (hR O) (.inr ⟨c0,c1⟩);have h1:=(Xq h (count:=count) (how:=how) (by_:=false) (ts.length+1) [] p L hI.p).1;have J:(zS ts count how false p L).2.1=true->p<=(zS ts count how false p L).2.2.1:=fun e=>(U e).1
   have j:L.length<=(zS ts count how false p L).2.2.2.length:=by obtain⟨M,hM⟩:=h1.2.2.2;have hM:(zS ts count how false p L).2.2.2=L++M:=hM;rw[hM,kW];omega
   generalize hq:zS ts count how false p L=q at U J j⊢;obtain⟨out,ok,B,L1⟩:=q;unfold ruE;dsimp only at U J j⊢;cases ok with
   |false=>exact⟨by simp[tlE],fun e=>by simp at e⟩
   |true=>
    obtain⟨g1,H,g3⟩:=U rfl;have H:=H c0;rw[mP,cond_false,zur,uAc,<-mZ,JH (by rw[mE,kW];have:=H.p;omega),za,zd7 h H.p,ze];have Z:=zkY (first:=false) H.p;have y:Iv ts (R++out) (B+(if howM false (ts.drop B)=0 then 0 else 1)) L1:=⟨Z,by have:=H.l;omega,by have:=H.r;omega,H.c,H.s⟩
    rw[if_pos rfl];dsimp only;rcases howM_cases false (ts.drop B)with hw|hw
    ·
      rw[hw]at y⊢;have hz:∀m,Zs ts count m 0 (R++out) (B+(if(0:Int)=0 then 0 else 1)) L1=(decide (m≠0),R++out,B+(if(0:Int)=0 then 0 else 1),L1):=by
       intro m;cases m with
       |zero=>rfl
       |succ m=>unfold Zs;rw[if_neg (by decide)];rfl
      cases k with
      |zero=>omega
      |succ k=>
       obtain⟨n,rfl⟩:∃m,n=m+1:=⟨n-1,by omega⟩
       rw[hz];exact⟨rfl,fun _=>⟨y,by dsimp only;omega⟩⟩
    ·have hlt1:=WW (first:=false) (ts:=ts) (p:=B) (by omega);rw[if_neg (show¬howM false (ts.drop B)=0 by omega)]at y⊢;obtain⟨i1,i2⟩:=Y4 h (count:=count) I k n (howM false (ts.drop B)) (R++out) (B+1) L1 y (fun _=>by rw[kW];omega) c0 (by omega) (by omega) (by omega);exact⟨i1,fun e=>⟨(i2 e).1,by have:=(i2 e).2;omega⟩⟩
  ·rw[decide_eq_false O,cond_false,if_neg O];exact⟨rfl,fun _=>⟨hI,mA _⟩⟩
end Go.Proofs.C06
end
section
set_option maxRecDepth 100000
namespace Go.Proofs.C06
open Go Go.RowKit Go.Vc Go.Am
variable {N : Nat} {ts : List Token} {p : Nat} {f t b a : Int} {tl rp : List AV} {L : Lv}
theorem Y5(h:Cx N ts):∀(k n:Nat)(first:Bool)(R:List Rule)(p:Nat)(L:Lv),Iv ts R p L->ts.length-p<k->k<=n->
  z6 N n (.inr (first,tkL ts,(p:Int),f,t,b,a,R.map rlV,rp,L.map lfR))=some (tlE ts f t b a rp (JB ts k first R p L))/\
  ((JB ts k first R p L).1=true->Iv ts (JB ts k first R p L).2.1 (JB ts k first R p L).2.2.1 (JB ts k first R p L).2.2.2)
 |0,_,_,_,_,_,_,hk,_=>by omega
 |k+1,n,first,R,p,L,hI,hk,hn=>by
  obtain⟨n,rfl⟩:∃m,n=m+1:=⟨n-1,by omega⟩
  have hl:=h.hl;have hN:=h.hN;have e:z6 N (n+1) (.inr (first,tkL ts,(p:Int),f,t,b,a,R.map rlV,rp,L.map lfR))=Zt N (z6 N n) first (tkL ts) (p:Int) f t b a (R.map rlV) rp (L.map lfR):=rfl
  rw[e];have hpl:=hI.p;have hrl:=hI.r;obtain⟨H,c2⟩:=zyO h hI.c hI.p;have c3:=zyN (p:=p) (R:=R) h hI.s;have Z:(jC ts R p L).2.1=false->(jC ts R p L)=(-1,false,p,L):=by
   unfold jC;intro J;split
   ·rename_i hb;rw[if_pos hb]at J;split at J<;>cases J
   ·rfl
  unfold Zt JB;rw[zlb h hI.p hI.l (by omega) hI.c hI.s,ze];generalize hq:jC ts R p L=q at H c2 c3 Z⊢;obtain⟨c,ok,B,L1⟩:=q;dsimp only at H c2 c3 Z⊢;cases ok with
  |false=>cases Z rfl;rw[nT,cond_true,if_neg (by simp)];exact⟨rfl,fun _=>hI⟩
  |true=>
   obtain⟨d1,d2,d3⟩:=c2 rfl;rw[mP,cond_false,if_pos rfl,zd7 h H.2.1,ze];dsimp only;by_cases j:howM false (ts.drop B)=0
   ·rw[decide_eq_true j,cond_true];exact⟨by rw[if_pos j,if_pos j];rfl,fun e=>by rw[if_pos j]at e;cases e⟩
   ·have O:=WW j;have y:L.length<=L1.length:=by obtain⟨M,hM⟩:=H.2.2.2;rw[hM,kW];omega
    have I:Iv ts R (B+1) L1:=⟨O,by have:=H.len hI.l;omega,by omega,hI.c.grow y,c3⟩
    obtain⟨i1,U⟩:=Y4 (f:=f) (t:=t) (b:=b) (a:=a) (rp:=rp) h (count:=c) (z6 N n) (ts.length+2) N (howM false (ts.drop B)) R (B+1) L1 I (fun _=>by omega) d2 d3 (by omega) (by omega);rw[decide_eq_false j,cond_false,if_neg j,if_neg j,i1];generalize hq2:Zs ts c (ts.length+2) (howM false (ts.drop B)) R (B+1) L1=q2 at U⊢;obtain⟨ok2,R2,p2,L2⟩:=q2;dsimp only at U⊢;cases ok2 with
    |false=>rw[if_neg (by simp),if_neg (by simp)];exact⟨rfl,fun e=>by cases e⟩
    |true=>obtain⟨j1,j2⟩:=U rfl;rw[if_pos rfl,if_pos rfl];exact Y5 h k n false R2 p2 L2 j1 (by omega) (by omega)
theorem zi7(h:Cx N ts){R:List Rule}(j:Iv ts R p L):
  J4 N (tkL ts) (p:Int) f t b a (R.map rlV) rp (L.map lfR)=some (tlE ts f t b a rp (JB ts (ts.length+1) true R p L))/\
  ((JB ts (ts.length+1) true R p L).1=true->Iv ts (JB ts (ts.length+1) true R p L).2.1 (JB ts (ts.length+1) true R p L).2.2.1 (JB ts (ts.length+1) true R p L).2.2.2):=by
 have B:=h.hN;have H:=h.hl;unfold J4;obtain⟨n,y⟩:∃n,N=n+1:=⟨N-1,by omega⟩
 have:=Y5 (f:=f) (t:=t) (b:=b) (a:=a) (rp:=rp) h (ts.length+1) N true R p L j (by omega) (by omega);rw[show z6 N N (.inl (true,tkL ts,(p:Int),f,t,b,a,R.map rlV,rp,L.map lfR))=z6 N N (.inr (true,tkL ts,(p:Int),f,t,b,a,R.map rlV,rp,L.map lfR))by
  rw[show z6 N N=z6 N (n+1)by rw[<-y]];rfl]
 exact this
structure Jv(ts:List Token)(m q:Nat)(L:Lv):Prop where
 p:q<=ts.length
 l:L.length<=q
 r:m<=q
 s:Sh L
theorem Iv.jv{R:List Rule}(h:Iv ts R p L):Jv ts 0 p L:=⟨h.p,h.l,nL _,h.s⟩
def rpE(ts:List Token)(f t b a:Int)(tl:List AV)(r:Bool×List Rule×Nat×Lv):TTy:=(r.1,gs ts f t b a tl (r.2.1.map rlV) r.2.2.1 r.2.2.2)
theorem J5(h:Cx N ts):∀(k n:Nat)(how:Int)(R:List Rule)(p:Nat)(L:Lv),Jv ts R.length p L->(0<how->R.length+1<=p)->ts.length-p+1<k->k<=n->
  yg N n how (tkL ts) (p:Int) f t b a tl (R.map rlV) (L.map lfR)=some (rpE ts f t b a tl (K8 ts k how R p L))
 |0,_,_,_,_,_,_,_,hk,_=>by omega
 |k+1,n,how,R,p,L,hI,hR,hk,hn=>by
  obtain⟨n,rfl⟩:∃m,n=m+1:=⟨n-1,by omega⟩
  have hl:=h.hl;have e:yg N (n+1) how (tkL ts) (p:Int) f t b a tl (R.map rlV) (L.map lfR)=Zu N (yg N n) how (tkL ts) (p:Int) f t b a tl (R.map rlV) (L.map lfR):=rfl;rw[e];unfold Zu K8;by_cases I:0<how
  ·rw[decide_eq_true I,cond_true,if_pos I,zg2 h hI.p hI.l,ze];obtain⟨y,O⟩:=Xq h (count:= -1) (how:=how) (by_:=true) (ts.length+1) [] p L hI.p;have J:=zau h (count:= -1) (how:=how) (by_:=true) (ts.length+1) [] p L hI.s;change Ok2 ts p L (zS ts (-1) how true p L).2.2.1 (zS ts (-1) how true p L).2.2.2 at y;change (zS ts (-1) how true p L).2.1=true->∃new,(zS ts (-1) how true p L).1=[]++new/\_/\new.length+p<=(zS ts (-1) how true p L).2.2.1+1 at O;change Sh (zS ts (-1) how true p L).2.2.2 at J;generalize hq:zS ts (-1) how true p L=q at y O J⊢;obtain⟨out,ok,B,L1⟩:=q;unfold ruE;dsimp only at y O J⊢;cases ok with
   |false=>rw[if_neg (by simp)];rfl
   |true=>
    obtain⟨new,U,_,e3⟩:=O rfl;have U:out=new:=U;subst U;have hlen:=y.len hI.l;have H:=y.2.1;have hp1:=y.1;have hr0:=hR I;rw[mP,cond_false,zur,uAc,<-mZ,JH (by rw[mE,kW];omega),za,zd7 h H,ze,if_pos rfl];have j:=zkY (first:=true) H;dsimp only;rcases howM_cases true (ts.drop B)with hw|hw
    ·rw[hw]at j⊢;cases k with
     |zero=>omega
     |succ k=>
      obtain⟨n,rfl⟩:∃m,n=m+1:=⟨n-1,by omega⟩
      unfold K8;rw[if_neg (show¬(0:Int)<0 by decide)];rfl
    ·have Z:=WW (first:=true) (ts:=ts) (p:=B) (by omega);rw[if_neg (show¬howM true (ts.drop B)=0 by omega)]at j⊢;exact J5 h k n (howM true (ts.drop B)) (R++out) (B+1) L1 ⟨j,by omega,by rw[kW];omega,J⟩ (fun _=>by rw[kW];omega) (by omega) (by omega)
  ·rw[decide_eq_false I,cond_false,if_neg I];rfl
end Go.Proofs.C06
end
section
set_option maxRecDepth 100000
namespace Go.Proofs.C06
open Go Go.RowKit Go.Vc Go.Am
variable {N : Nat} {ts : List Token} {p : Nat} {f t b a : Int} {tl rp : List AV} {L : Lv}
theorem zgc(h:Cx N ts)(y:Jv ts 0 p L):
  YN N (tkL ts) (p:Int) f t b a tl [] (L.map lfR)=some (if howM true (ts.drop p)=0 then(false,gs ts f t b a tl [] p L)else rpE ts f t b a tl (K8 ts (ts.length+2) (howM true (ts.drop p)) [] (p+1) L)):=by
 have J:=h.hN;have H:=h.hl;unfold YN;rw[zd7 h y.p,ze];dsimp only;by_cases j:howM true (ts.drop p)=0
 ·rw[decide_eq_true j,cond_true,if_pos j,if_pos j];rfl
 ·have B:=WW j;have I:=y.l;rw[decide_eq_false j,cond_false,if_neg j,if_neg j];exact J5 h (ts.length+2) N (howM true (ts.drop p)) [] (p+1) L ⟨B,by omega,nL _,y.s⟩ (fun _=>by simp) (by omega) (by omega)
abbrev CnT:=Bool×Int×Int×Int×Int×Nat×Lv
def Yj(ts:List Token)(p:Nat)(L:Lv):CnT:=if(nextM ts p L).2.1 then(if hdW [84,79] (ts.drop (nextM ts p L).2.2.1)then(if(nextM ts ((nextM ts p L).2.2.1+1) (nextM ts p L).2.2.2).2.1 then((yF ts 3 (-1) (-1) (nextM ts ((nextM ts p L).2.2.1+1) (nextM ts p L).2.2.2).2.2.1 (nextM ts ((nextM ts p L).2.2.1+1) (nextM ts p L).2.2.2).2.2.2).2.2.1,(nextM ts p L).1,(nextM ts ((nextM ts p L).2.2.1+1) (nextM ts p L).2.2.2).1,(yF ts 3 (-1) (-1) (nextM ts ((nextM ts p L).2.2.1+1) (nextM ts p L).2.2.2).2.2.1 (nextM ts ((nextM ts p L).2.2.1+1) (nextM ts p L).2.2.2).2.2.2).1,(yF ts 3 (-1) (-1) (nextM ts ((nextM ts p L).2.2.1+1) (nextM ts p L).2.2.2).2.2.1 (nextM ts ((nextM ts p L).2.2.1+1) (nextM ts p L).2.2.2).2.2.2).2.1,(yF ts 3 (-1) (-1) (nextM ts ((nextM ts p L).2.2.1+1) (nextM ts p L).2.2.2).2.2.1 (nextM ts ((nextM ts p L).2.2.1+1) (nextM ts p L).2.2.2).2.2.2).2.2.2)else(false,f0,f0,f0,f0,p,L))else(false,f0,f0,f0,f0,p,L))else(false,f0,f0,f0,f0,p,L)
where f0:Int:= -1
theorem zfw(h:Cx N ts)(hp:p<=ts.length)(h3:L.length<=p):
  ∃(f' t' b' a':Int)(q:Nat)(M:Lv),Ju N (tkL ts) (p:Int) f t b a tl rp (L.map lfR)=some ((Yj ts p L).1,gs ts f' t' b' a' tl rp q M)/\
   ((Yj ts p L).1=true->(f',t',b',a',q,M)=(Yj ts p L).2):=by
 have U:=qg (L:=L) h hp;unfold Ju Yj;rw[za4 h hp h3,ze];have B:=U.len h3;have I:=U.2.1;generalize nextM ts p L=q at U B I⊢;obtain⟨x,ok,J,L1⟩:=q;dsimp only at U B I⊢;cases ok with
 |false=>rw[if_neg (by simp)];exact⟨_,_,_,_,_,_,rfl,fun e=>by cases e⟩
 |true=>
  rw[if_pos rfl,mP,cond_false,ju h I,ze];dsimp only;cases hw:hdW [84,79] (ts.drop J)with
  |false=>rw[if_neg (by simp)];exact⟨_,_,_,_,_,_,rfl,fun e=>by cases e⟩
  |true=>
   have O:=Z9 hw;have Z:=qg (L:=L1) h (p:=J+1) O;have j:=Z.len (show L1.length<=J+1 by omega);have H:=Z.2.1;rw[if_pos rfl,mP,cond_false,show J+Bool.toNat true=J+1 from rfl,za4 h O (by omega),ze];generalize nextM ts (J+1) L1=q2 at Z j H⊢;obtain⟨y,ok2,p2,L2⟩:=q2;dsimp only at Z j H⊢;cases ok2 with
   |false=>rw[if_neg (by simp)];exact⟨_,_,_,_,_,_,rfl,fun e=>by cases e⟩
   |true=>rw[if_pos rfl,mP,cond_false,zfs h H j,ze];exact⟨_,_,_,_,_,_,rfl,fun _=>rfl⟩
abbrev PTy:=List AV×List AV×Int×Int×Int×Int×List AV×Int
def zyZ:PTy:=([],[],0,0,0,0,[],4)
def Yb(ts:List Token)(ok:Bool)(f t b a:Int)(R1 R2:List AV)(p:Nat)(L:Lv):PTy:=if ok=true/\¬p<ts.length then(R1,R2,f,t,b,a,L.map lfR,0)else zyZ
theorem qq{ok:Bool}{B c2 c3 H:Int}:
  qI N (tkL ts) ok B c2 c3 H (tkL ts) (p:Int) f t b a tl rp (L.map lfR)=some (Yb ts ok f t b a tl rp p L):=by
 unfold qI Yb;cases ok with
 |false=>rw[if_neg (by simp)];rfl
 |true=>
  rw[mP,cond_false,z8];by_cases h:p<ts.length
  ·rw[decide_eq_true (show(p:Int)<(ts.length:Int)by omega),cond_true,if_neg (fun x=>x.2 h)];rfl
  ·rw[decide_eq_false (show¬(p:Int)<(ts.length:Int)by omega),cond_false,if_pos ⟨rfl,h⟩];have y:∀l:List AV,(jb 0 (l.length:Int) l.length&&decide ((l.length:Int)=(l.length:Int)))=true:=fun l=>by rw[zK.2 ⟨by omega,by omega,by omega⟩,decide_eq_true rfl];rfl
   have j:∀l:List AV,Am.subL l 0 (0+((l.length:Int)-0))=l:=fun l=>by rw[show(0:Int)+((l.length:Int)-0)=(l.length:Int)by omega];exact K4 l
   rw[y,y,y,za,za,za,za,za,za,j,j,j]
def zb2(ts:List Token)(j:Bool)(r:Bool×List Rule×Nat×Lv):PTy:=if r.1 then(if hdW [82,69,80,76,65,67,73,78,71] (ts.drop r.2.2.1)then(if howM true (ts.drop (r.2.2.1+1))=0 then zyZ else Yb ts (K8 ts (ts.length+2) (howM true (ts.drop (r.2.2.1+1))) [] (r.2.2.1+2) r.2.2.2).1 (-1) (-1) (-1) (-1) (r.2.1.map rlV) ((K8 ts (ts.length+2) (howM true (ts.drop (r.2.2.1+1))) [] (r.2.2.1+2) r.2.2.2).2.1.map rlV) (K8 ts (ts.length+2) (howM true (ts.drop (r.2.2.1+1))) [] (r.2.2.1+2) r.2.2.2).2.2.1 (K8 ts (ts.length+2) (howM true (ts.drop (r.2.2.1+1))) [] (r.2.2.1+2) r.2.2.2).2.2.2)else Yb ts j (-1) (-1) (-1) (-1) (r.2.1.map rlV) [] r.2.2.1 r.2.2.2)else zyZ
def qF(ts:List Token):PTy:=if(opd ts).2=0/\nmT (opL ts 0) 0=true then(if hdW [67,79,78,86,69,82,84,73,78,71] (ts.drop (opP ts 0))then Yb ts (Yj ts (opP ts 0+1) [opL ts 0]).1 (Yj ts (opP ts 0+1) [opL ts 0]).2.1 (Yj ts (opP ts 0+1) [opL ts 0]).2.2.1 (Yj ts (opP ts 0+1) [opL ts 0]).2.2.2.1 (Yj ts (opP ts 0+1) [opL ts 0]).2.2.2.2.1 [] [] (Yj ts (opP ts 0+1) [opL ts 0]).2.2.2.2.2.1 (Yj ts (opP ts 0+1) [opL ts 0]).2.2.2.2.2.2 else if hdW [84,65,76,76,89,73,78,71] (ts.drop (opP ts 0))then zb2 ts true (JB ts (ts.length+1) true [] (opP ts 0+1) [opL ts 0])else zb2 ts false (true,[],opP ts 0,[opL ts 0]))else zyZ
theorem zuu{f t b a H B j y:Int}{R1 R2 R1' R2':List AV}{p q:Nat}{L M:Lv}:Yb ts false f t b a R1 R2 p L=Yb ts false H B j y R1' R2' q M:=by unfold Yb;rw[if_neg (by simp),if_neg (by simp)]
theorem WZ(h:Cx N ts){j:Bool}{I c2 c3 O:Int}{R:List Rule}{ok:Bool}(J:ok=true->Jv ts 0 p L):
  J8 N (tkL ts) ok j I c2 c3 O (tkL ts) (p:Int) (-1) (-1) (-1) (-1) (R.map rlV) [] (L.map lfR)=some (zb2 ts j (ok,R,p,L)):=by
 unfold J8 zb2;cases ok with
 |false=>rw[cond_false,if_neg (by simp)];unfold J7;rw[cond_false,cond_false,qq];unfold Yb;rw[if_neg (by simp)]
 |true=>
  have B:=J rfl;rw[cond_true,if_pos rfl,ju h B.p,ze];unfold J7;dsimp only;cases hw:hdW [82,69,80,76,65,67,73,78,71] (ts.drop p)with
  |false=>rw[cond_false,cond_true,if_neg (by simp)];exact qq
  |true=>
   have H:=Z9 hw;have U:=B.l;rw[cond_true,if_pos rfl,show p+Bool.toNat true=p+1 from rfl,show([]:List AV)=([]:List Rule).map rlV from rfl];rw[show(([]:List Rule).map rlV)=([]:List AV)from rfl,zgc h ⟨H,by omega,nL _,B.s⟩,ze];by_cases y:howM true (ts.drop (p+1))=0
   ·rw[if_pos y,if_pos y,qq];unfold Yb;rw[if_neg (by simp)]
   ·rw[if_neg y,if_neg y];exact qq
theorem za2(h:Cx N ts):za3 N (tkL ts)=some (qF ts):=by
 have J:=h.hl;unfold za3 qF;have U:=Js (N:=N) (p:=0) (f:= -1) (t:= -1) (b:= -1) (a:= -1) (tl:=[]) (rp:=[]) (lv:=[]) h (nL _);rw[uAe]at U;rw[show((0:Int))=((0:Nat):Int)from rfl,U,ze];have Z:opL ts 0=ts.take (opd ts).1:=by unfold opL;rw[uAe]
 have e2:opP ts 0=(opd ts).1:=by unfold opP;rw[uAe];omega
 by_cases H:(opd ts).2=0
 ·have hn:=Qz (p:=0) h;have j:=zcz (p:=0) h (by rw[uAe];exact H);rw[uAe]at hn;rw[if_pos H];dsimp only;rw[mP,cond_false,<-Z,zfr (fun u hu=>h.hw u (uAy (Z▸hu))),ze];cases hm:nmT (opL ts 0) 0 with
  |false=>rw[nT,cond_true,if_neg (by simp)];rfl
  |true=>
   have O:=XB H;rw[mP,cond_false,if_pos ⟨H,rfl⟩,show 0+(opd ts).1=opP ts 0 by omega,zft j.1 j.2 (by simp),ze];have y:opP ts 0<=ts.length:=by omega
   dsimp only;rw[show([]:List AV)++[lfR (opL ts 0)]=[opL ts 0].map lfR from rfl,ju h y,ze];have I:Sh [opL ts 0]:=fun l J=>by rw[mD]at J;subst J;exact j.2
   dsimp only;cases hw:hdW [67,79,78,86,69,82,84,73,78,71] (ts.drop (opP ts 0))with
   |true=>
    have B:=Z9 hw;rw[cond_true,if_pos rfl,show opP ts 0+Bool.toNat true=opP ts 0+1 from rfl];obtain⟨f',t',b',a',q,M,g1,g2⟩:=zfw (f:= -1) (t:= -1) (b:= -1) (a:= -1) (tl:=[]) (rp:=[]) (L:=[opL ts 0]) h B (by simp);rw[g1,ze];refine qq.trans (congrArg some ?_);cases hc:(Yj ts (opP ts 0+1) [opL ts 0]).1 with
    |false=>exact zuu
    |true=>rw[<-g2 hc]
   |false=>
    rw[cond_false,if_neg (by simp),show opP ts 0+Bool.toNat false=opP ts 0 from rfl,ju h y,ze];dsimp only;cases hw2:hdW [84,65,76,76,89,73,78,71] (ts.drop (opP ts 0))with
    |false=>rw[nT,cond_true,if_neg (by simp),show opP ts 0+Bool.toNat false=opP ts 0 from rfl];exact WZ h (R:=[]) (fun _=>⟨y,by simp;omega,nL _,I⟩)
    |true=>have B:=Z9 hw2;obtain⟨t1,t2⟩:=zi7 (f:= -1) (t:= -1) (b:= -1) (a:= -1) (rp:=[]) (R:=[]) (p:=opP ts 0+1) (L:=[opL ts 0]) h ⟨B,by simp,nL _,(fun r hr=>by cases hr),I⟩;have t3:J4 N (tkL ts) ((opP ts 0+1:Nat):Int) (-1) (-1) (-1) (-1) [] [] ([opL ts 0].map lfR)=_:=t1;rw[mP,cond_false,if_pos rfl,show opP ts 0+Bool.toNat true=opP ts 0+1 from rfl,t3,ze];exact WZ h (R:=(JB ts (ts.length+1) true [] (opP ts 0+1) [opL ts 0]).2.1) (fun e=>(t2 e).jv)
 ·rw[if_neg H,if_neg (fun x=>H x.1)];rfl
end Go.Proofs.C06
end
section
set_option maxRecDepth 100000
namespace Go.Proofs.C06
open Go Go.RowKit Go.Vc Go.Am
def tok(k:Int)(s:uAS):Token:=⟨k,s,0,0,false⟩
def kw(s:uAS):Token:=tok 1 s
variable {N : Nat} {f t b a at_ : Int} {by_ : uAS} {fl tl rp lv : List AV}
theorem K3(T:List Token)(k:Int)(s:uAS):tkL T++[.agg [.int .u8 (tok k s).uG,.str (tok k s).uH,.int .i64 (tok k s).uO,.int .i64 (tok k s).uP,.bool (tok k s).uQ]]=tkL (T++[tok k s]):=by rw[znZ];rfl
theorem zhj{s:List uAS}(y:s.length<=1000):∀(k i:Nat)(T:List Token),T.length+(s.length-i)<=10000->i<=s.length->s.length-i<k->
  yO N k (.inr ((i:Int),f,t,b,a,by_,at_,s,fl,tl,rp,lv,tkL T))=some (.inr (f,t,b,a,by_,at_,s,fl,tl,rp,lv,tkL (T++(s.drop i).map kw)))
 |0,_,_,_,_,h=>by omega
 |k+1,i,T,hT,hi,hk=>by
  show KW N (yO N k) (i:Int) f t b a by_ at_ s fl tl rp lv (tkL T)=_;unfold KW;by_cases h:i<s.length
  ·have j:zw (i:Int) s.length=true:=zB.2 ⟨by omega,by omega⟩;have e:atS s (i:Int)=s[i]:=by unfold atS;rw[nA,mG,kZ h];rfl
   rw[decide_eq_true (by omega),cond_true,j,za,za,e];unfold zX;rw[ze,JH (by rw[kW,z8,mF];omega),za,yu (by omega) (by omega),za];have:=zhj y k (i+1) (T++[kw s[i]]) (by rw[kW,mF];omega) (by omega) (by omega);rw[nH h,nO,show T++kw s[i]::(s.drop (i+1)).map kw=(T++[kw s[i]])++(s.drop (i+1)).map kw by simp,<-this];exact congrArg (fun l=>yO N k (.inr (((i+1:Nat):Int),f,t,b,a,by_,at_,s,fl,tl,rp,lv,l))) (K3 T 1 s[i])
  ·rw[decide_eq_false (by omega),cond_false,nS (by omega),uAA,mM]
theorem yM{s:List uAS}{T:List Token}(H:s.length<=1000)(I:1100<N)(y:T.length+s.length<=10000):
  qw N f t b a by_ at_ s (tkL T) fl tl rp lv=some (f,t,b,a,by_,at_,s,tkL (T++s.map kw),fl,tl,rp,lv):=by
 unfold qw zy1;obtain⟨n,B⟩:∃n,N=n+1:=⟨N-1,by omega⟩
 have e:yO N N (.inl (0,f,t,b,a,by_,at_,s,tkL T,fl,tl,rp,lv))=some (if s=[]then .inl (f,t,b,a,by_,at_,s,tkL T,fl,tl,rp,lv)else .inr (f,t,b,a,by_,at_,s,fl,tl,rp,lv,tkL (T++s.map kw))):=by
  rw[show yO N N=yO N (n+1)by rw[<-B]];show KX N (yO N n) 0 f t b a by_ at_ s (tkL T) fl tl rp lv=_;unfold KX;cases s with
  |nil=>rfl
  |cons x r=>rw[mC]at H y;have j:zw (0:Int) (x::r).length=true:=zB.2 ⟨by omega,by rw[mC];omega⟩;rw[decide_eq_true (by rw[mC];omega),cond_true,j,za,za,if_neg (by simp)];unfold zX;rw[ze,JH (by rw[kW,z8,mF];omega),za,yu (by omega) (by omega),za];have:=zhj (N:=N) (f:=f) (t:=t) (b:=b) (a:=a) (by_:=by_) (at_:=at_) (fl:=fl) (tl:=tl) (rp:=rp) (lv:=lv) (s:=x::r) (by rw[mC];omega) n 1 (T++[kw x]) (by rw[kW,mF,mC];omega) (by rw[mC];omega) (by rw[mC];omega);rw[nO,show T++kw x::r.map kw=(T++[kw x])++((x::r).drop 1).map kw by simp,<-this];exact congrArg (fun l=>yO N n (.inr (((1:Nat):Int),f,t,b,a,by_,at_,x::r,fl,tl,rp,lv,l))) (K3 T 1 x)
 rw[e,ze];cases s with
 |nil=>rw[if_pos rfl,uAA,mM];rfl
 |cons x r=>rw[if_neg (by simp)];rfl
def fdV(f:Field):AV:=.agg [.int .u8 f.vQ,.int .u8 f.vR,.str f.vT,.int .i64 f.vU,.int .i64 f.vV,.bool f.vW,.bool f.vX,.bool f.vY,.bool f.vZ,.bool f.wA,.int .i64 f.wC,.rob false f.wD]
def lfB(l:List Token):AV:=.rov false 5 (tkL l)
theorem zAx{n:Nat}(h:n<=100000):growOk 80 n=true:=by unfold growOk;simp only[kY,uAB];omega
theorem Xf{l T:List Token}{F:Field}{L:Lv}(B:T.length+l.length<=10000)(j:fl.length=L.length)(y:L.length<=10000):
  qN N (tkL l) F f t b a by_ at_ (tkL T) fl tl rp (L.map lfB)=some ((L.length:Int),f,t,b,a,by_,at_,tkL (T++l),fl++[fdV F],tl,rp,(L++[l]).map lfB):=by
 unfold qN zpu;rw[zpj,uAc,<-znZ,JH (by rw[z8,kW];omega),za,zuh (by rw[kW,mE,mF];omega),za,
  zAx (by rw[kW,mF];omega),za,kW,mF]
 rw[show((fl.length+1:Nat):Int)-1=(L.length:Int)by omega,yu (by omega) (by omega),za,ze];dsimp only;rw[mZ];rfl
end Go.Proofs.C06
end
section
set_option maxRecDepth 100000
namespace Go.Proofs.C06
open Go Go.RowKit Go.Vc Go.Am
variable {N : Nat} {f t b a at_ : Int} {by_ : uAS} {fl tl rp lv : List AV}
theorem znR{z:Int}(j:0<=z)(y:z<256):IntKind.wrap .u8 z=z:=by show z%256=z;exact Int.emod_eq_of_lt j y
theorem znv{a b:uAS}(h:a.length+b.length<=100000):yK a b=true:=zba.2 (by omega)
theorem zbB{s:uAS}(hs:s.length<=1000):∀(k i:Nat)(J O:Int)(b0_2:uAS)(b0_3 b0_4:Int)(b0_5 b0_6 b0_7 Z I:Bool)(j H b1_1:Int)(pic:uAS)(b1_3 b1_4:Int)(b1_5 b1_6 B b1_8 U:Bool)(y:Int)(b2:uAS),
  i<=s.length->s.length-i<k->pic.length<=i->∃F,q7 N k s (i:Int) J O b0_2 b0_3 b0_4 b0_5 b0_6 b0_7 Z I j H b1_1 pic b1_3 b1_4 b1_5 b1_6 B b1_8 U y b2=some F
 |0,_,_,_,_,_,_,_,_,_,_,_,_,_,_,_,_,_,_,_,_,_,_,_,_,_,h,_=>by omega
 |k+1,i,J,O,b0_2,b0_3,b0_4,b0_5,b0_6,b0_7,Z,I,j,H,b1_1,pic,b1_3,b1_4,b1_5,b1_6,B,b1_8,U,y,b2,hi,hk,hp=>by
  show∃F,JG N (q7 N k) s (i:Int) J O b0_2 b0_3 b0_4 b0_5 b0_6 b0_7 Z I j H b1_1 pic b1_3 b1_4 b1_5 b1_6 B b1_8 U y b2=some F;unfold JG;by_cases h:i<s.length
  ·rw[decide_eq_true (by omega),cond_true,znv (by simp only[mC,uAC];omega),za,yu (by omega) (by omega),za];exact zbB hs k (i+1) _ _ _ _ _ _ _ _ _ _ _ _ _ _ _ _ _ _ _ _ _ _ _ (by omega) (by omega) (by rw[kW,mF];omega)
  ·rw[decide_eq_false (by omega),cond_false];by_cases hz:s=[]
   ·rw[decide_eq_true hz,cond_true];exact⟨_,rfl⟩
   ·rw[decide_eq_false hz,cond_false];exact⟨_,rfl⟩
theorem zaQ{s:uAS}(j:s.length<=1000)(y:1100<N):∃F,JU N s=some F:=
 zbB j N 0 _ _ _ _ _ _ _ _ _ _ _ _ _ _ _ _ _ _ _ _ _ _ _ (by omega) (by omega) (by simp)
def opT(e:Bool)(s:uAS):List Token:=if e then[tok 3 s]else[tok 1 [88],tok 5 [40],tok 2 [49],tok 5 [41]]
theorem XC(e:Bool)(s:uAS):(opT e s).length<=4:=by cases e<;>simp[opT]
theorem zAs{c:Int}(j:0<=c):zh c=true/\zn .u8 (IntKind.wrap .u8 (65+c%3))=true:=by have y:=uAJ c (show(3:Int)≠0 by decide);have B:=uAO c (show(0:Int)<3 by decide);rw[znR (by omega) (by omega)];exact⟨decide_eq_true j,ql.2 ⟨by show(0:Int)<=_;omega,by show _<=(255:Int);omega⟩⟩
theorem zqC(l:uAS)(i:Int):0<=byteAt l i:=by unfold byteAt;omega
theorem zqP(z:Int):0<=IntKind.wrap .u8 z:=by show 0<=z%256;exact uAJ z (by decide)
theorem Kk{T:List Token}{L:Lv}(B:1100<N)(U:T.length<=5000)(y:fl.length=L.length)(Z:L.length<=5000){n:Nat}(hn:n<=100):∀(k i:Nat)(s:uAS)(q:Nat),i<=n->s.length<=i->q<=5000+i->n-i<k->
  ∃j F,yw N k (n:Int) s (i:Int) f t b a by_ (q:Int) (tkL T) fl tl rp (L.map lfB)=
   some ((L.length:Int),f,t,b,a,by_,((q+(n-i):Nat):Int),tkL (T++opT (decide ((q+(n-i))%2=0)) j),fl++[fdV F],tl,rp,(L++[opT (decide ((q+(n-i))%2=0)) j]).map lfB)
 |0,_,_,_,_,_,_,h=>by omega
 |k+1,i,s,q,hi,hs,hq,hk=>by
  show∃j F,JN N (yw N k) (n:Int) s (i:Int) f t b a by_ (q:Int) (tkL T) fl tl rp (L.map lfB)=_;unfold JN;by_cases h:i<n
  ·have key:∀c:Int,0<=c->∃j F,Zk N (yw N k) (n:Int) s (i:Int) c f t b a by_ (q:Int) (tkL T) fl tl rp (L.map lfB)=
     some ((L.length:Int),f,t,b,a,by_,((q+(n-i):Nat):Int),tkL (T++opT (decide ((q+(n-i))%2=0)) j),fl++[fdV F],tl,rp,(L++[opT (decide ((q+(n-i))%2=0)) j]).map lfB):=by
    intro c hc;obtain⟨l1,O⟩:=zAs hc;unfold Zk;rw[yu (by omega) (by omega),za,l1,decide_eq_true (show(0:Nat)<3 by decide),nM,za,O,nM,za,znv (by rw[mE,mF];omega),za,yu (by omega) (by omega),za];have:=Kk B U y Z hn k (i+1) (s++([(IntKind.wrap .u8 (65+(c%3)))].map toByte)) (q+1) (by omega) (by rw[kW,mE,mF];omega) (by omega) (by omega);rw[show q+1+(n-(i+1))=q+(n-i)by omega]at this;exact this
   rw[decide_eq_true (by omega),cond_true];by_cases hb:0<by_.length
   ·rw[decide_eq_true (by omega),cond_true];have J:=uAJ (q:Int) (show(by_.length:Int)≠0 by omega);have m2:=uAO (q:Int) (show(0:Int)<(by_.length:Int)by omega);rw[show zh (q:Int)=true from decide_eq_true (by omega),nM,za,zB.2 ⟨J,m2⟩,za];exact key _ (zqC _ _)
   ·rw[decide_eq_false (by omega),cond_false];exact key _ (zqP _)
  ·have I:n-i=0:=by omega
   rw[decide_eq_false (by omega),cond_false,show zh (q:Int)=true from decide_eq_true (by omega),decide_eq_true (show(0:Nat)<2 by decide),nM,za,I,uAu];obtain⟨F,H⟩:=zaQ (N:=N) (s:=s) (by omega) B;refine⟨s,F,?_⟩;by_cases hp:q%2=0
   ·rw[decide_eq_true (show(q:Int)%2=0 by omega),decide_eq_true hp,cond_true];unfold zX;rw[ze,H,ze];have:=Xf (N:=N) (f:=f) (t:=t) (b:=b) (a:=a) (by_:=by_) (at_:=(q:Int)) (fl:=fl) (tl:=tl) (rp:=rp) (l:=[tok 3 s]) (T:=T) (F:=F) (L:=L) (by simp;omega) y (by omega);exact (congrArg (fun x=>bnd x _) this).trans rfl
   ·rw[decide_eq_false (show¬(q:Int)%2=0 by omega),decide_eq_false hp,cond_false];unfold zX;rw[ze,ze,ze,ze,H,ze];have:=Xf (N:=N) (f:=f) (t:=t) (b:=b) (a:=a) (by_:=by_) (at_:=(q:Int)) (fl:=fl) (tl:=tl) (rp:=rp) (l:=[tok 1 [88],tok 5 [40],tok 2 [49],tok 5 [41]]) (T:=T) (F:=F) (L:=L) (by simp;omega) y (by omega);exact (congrArg (fun x=>bnd x _) this).trans rfl
theorem yx{T:List Token}{L:Lv}(B:1100<N)(H:T.length<=5000)(y:fl.length=L.length)(I:L.length<=5000){n:Nat}(J:n<=100){q:Nat}(O:q<=5000):
  ∃j F,jn N (n:Int) f t b a by_ (q:Int) (tkL T) fl tl rp (L.map lfB)=
   some ((L.length:Int),f,t,b,a,by_,((q+n:Nat):Int),tkL (T++opT (decide ((q+n)%2=0)) j),fl++[fdV F],tl,rp,(L++[opT (decide ((q+n)%2=0)) j]).map lfB):=
 Kk B H y I J N 0 [] q (nL _) (by simp) (by omega) (by omega)
end Go.Proofs.C06
end
section
set_option maxRecDepth 100000
namespace Go.Proofs.C06
open Go Go.RowKit Go.Vc Go.Am
variable {N : Nat} {f t b a at_ : Int} {by_ : uAS} {fl tl rp lv : List AV}
def Xj(l:List Token):Prop:=∃e s,l=opT e s
def zlN(w:List Token)(k:Nat)(T:List Token)(D:Lv)(x:Int):Prop:=(T=[]/\D=[]/\x= -1)\/∃o,Xj o/\T=w++o/\D=[o]/\x=(k:Int)
def zfP:List Token:=[kw [66,69,70,79,82,69],kw [73,78,73,84,73,65,76]]
def zlI:List Token:=[kw [65,70,84,69,82]]
theorem QA{l:List Token}(h:Xj l):l.length<=4:=by obtain⟨e,s,rfl⟩:=h;exact XC e s
theorem zbV{T:List Token}{L:Lv}(I:1100<N)(hT:T.length<=4990)(H:fl.length=L.length)(O:L.length<=5000){q:Nat}(hq:q<=4990){r:R}(ha:0<=r.uI)(x:Int):
  ∃T' D y J B,zlN zlI L.length T' D y/\T'.length<=5/\J<=q+2/\B.length=L.length+D.length/\
   Ji N x (-1) f t b a by_ (q:Int) r (tkL T) fl tl rp (L.map lfB)=some (.inr (x,y,f,t,b,a,by_,(J:Int),tkL (T++T'),B,tl,rp,(L++D).map lfB)):=by
 have h2:=uAJ r.uI (show(2:Int)≠0 by decide);have h3:=uAO r.uI (show(0:Int)<2 by decide);unfold Ji;rw[show zh r.uI=true from decide_eq_true ha,decide_eq_true (show(0:Nat)<3 by decide),nM,za];by_cases h:r.uI%3=0
 ·rw[decide_eq_true h,cond_true,yM (s:=[[65,70,84,69,82]]) (by simp) I (by simp;omega),ze];obtain⟨n,U⟩:∃n:Nat,1+r.uI%2=(n:Int):=⟨(1+r.uI%2).toNat,by omega⟩
  dsimp only;rw[decide_eq_true (show(0:Nat)<2 by decide),nM,za,yu (by omega) (by omega),za,U,yu (by omega) (by omega),za];obtain⟨j,F,e⟩:=yx (N:=N) (f:=f) (t:=t) (b:=b) (a:=a) (by_:=by_) (fl:=fl) (tl:=tl) (rp:=rp) (T:=T++[kw [65,70,84,69,82]]) (L:=L) I (by simp;omega) H O (n:=n) (by omega) (q:=q) (by omega);have e:jn N (n:Int) f t b a by_ (q:Int) (tkL (T++[[65,70,84,69,82]].map kw)) fl tl rp (L.map lfB)=_:=e;rw[e,ze];have Z:=XC (decide ((q+n)%2=0)) j;refine⟨zlI++opT (decide ((q+n)%2=0)) j,[opT (decide ((q+n)%2=0)) j],(L.length:Int),q+n,fl++[fdV F],.inr ⟨_,⟨_,_,rfl⟩,rfl,rfl,rfl⟩,?_,by omega,?_,?_⟩
  ·rw[kW];show 1+_<=5;omega
  ·rw[kW,H];rfl
  ·rw[show T++(zlI++opT (decide ((q+n)%2=0)) j)=T++[kw [65,70,84,69,82]]++opT (decide ((q+n)%2=0)) j from(mB _ _ _).symm]
 ·rw[decide_eq_false h,cond_false];exact⟨[],[],-1,q,fl,.inl ⟨rfl,rfl,rfl⟩,by simp,by omega,by simpa using H,by rw[mM,mM]⟩
theorem zjF{T:List Token}{L:Lv}(O:1100<N)(Z:T.length<=4990)(I:fl.length=L.length)(hL:L.length<=5000){q:Nat}(hq:q<=4990){r:R}(ha:0<=r.uI):
  ∃T' D y H j,zlN zlI L.length T' D y/\T'.length<=5/\H<=q+2/\j.length=L.length+D.length/\
   (bnd (ZH N (-1) (-1) f t b a by_ (q:Int) (tkL T) fl tl rp (L.map lfB) r) fun r=>some (zbf r))=some (-1,y,f,t,b,a,by_,(H:Int),tkL (T++T'),j,tl,rp,(L++D).map lfB):=by
 obtain⟨T',D,y,H,j,J,h2,h3,U,B⟩:=zbV (N:=N) (f:=f) (t:=t) (b:=b) (a:=a) (by_:=by_) (fl:=fl) (tl:=tl) (rp:=rp) O Z I hL hq ha (-1);refine⟨T',D,y,H,j,J,h2,h3,U,?_⟩;unfold Ji at B;unfold ZH;rw[show zh r.uI=true from decide_eq_true ha,decide_eq_true (show(0:Nat)<3 by decide),nM,za]at B⊢;by_cases h:r.uI%3=0
 ·rw[decide_eq_true h,cond_true]at B⊢;rw[B,ze];rfl
 ·rw[decide_eq_false h,cond_false]at B⊢;rw[ze];have B:=Sum.inr.inj (Option.some.inj B);refine congrArg some ?_;show _=_;rw[<-B];rfl
def zch(k:Nat)(T:List Token)(D:Lv)(x y:Int):Prop:=∃T1 D1 T2 D2,zlN zfP k T1 D1 x/\zlN zlI (k+D1.length) T2 D2 y/\T=T1++T2/\D=D1++D2
theorem Xe{T:List Token}{L:Lv}(J:1100<N)(hT:T.length<=4900)(U:fl.length=L.length)(hL:L.length<=4900){q:Nat}(hq:q<=4900){r:R}(hb:0<=r.uK)(ha:0<=r.uI):
  ∃T' D x y H j,zch L.length T' D x y/\T'.length<=11/\H<=q+3/\j.length=L.length+D.length/\
   Jk N r f t b a by_ (q:Int) (tkL T) fl tl rp (L.map lfB)=some (x,y,f,t,b,a,by_,(H:Int),tkL (T++T'),j,tl,rp,(L++D).map lfB):=by
 unfold Jk zd9;rw[show zh r.uK=true from decide_eq_true hb,decide_eq_true (show(0:Nat)<3 by decide),nM,za];by_cases h:r.uK%3=0
 ·rw[decide_eq_true h,cond_true,yM (s:=[[66,69,70,79,82,69],[73,78,73,84,73,65,76]]) (by simp) J (by simp;omega),ze];dsimp only;obtain⟨B,F,e⟩:=yx (N:=N) (f:=f) (t:=t) (b:=b) (a:=a) (by_:=by_) (fl:=fl) (tl:=tl) (rp:=rp) (T:=T++zfP) (L:=L) J (by simp[zfP];omega) U (by omega) (n:=1) (by omega) (q:=q) (by omega);have e:jn N 1 f t b a by_ (q:Int) (tkL (T++[[66,69,70,79,82,69],[73,78,73,84,73,65,76]].map kw)) fl tl rp (L.map lfB)=_:=e;rw[e,ze];have hl:=XC (decide ((q+1)%2=0)) B;obtain⟨T',D,y,H,j,I,h2,h3,Z,O⟩:=zbV (N:=N) (f:=f) (t:=t) (b:=b) (a:=a) (by_:=by_) (fl:=fl++[fdV F]) (tl:=tl) (rp:=rp) (T:=T++zfP++opT (decide ((q+1)%2=0)) B) (L:=L++[opT (decide ((q+1)%2=0)) B]) J (by simp[zfP];omega) (by simp[U]) (by simp;omega) (q:=q+1) (by omega) ha (L.length:Int);dsimp only;rw[O,ze];refine⟨(zfP++opT (decide ((q+1)%2=0)) B)++T',[opT (decide ((q+1)%2=0)) B]++D,(L.length:Int),y,H,j,⟨_,_,_,_,.inr ⟨_,⟨_,_,rfl⟩,rfl,rfl,rfl⟩,?_,rfl,rfl⟩,?_,by omega,?_,?_⟩
  ·rw[kW]at I;exact I
  ·simp[zfP];omega
  ·rw[Z];simp;omega
  ·rw[show T++((zfP++opT (decide ((q+1)%2=0)) B)++T')=T++zfP++opT (decide ((q+1)%2=0)) B++T' by simp,show L++([opT (decide ((q+1)%2=0)) B]++D)=L++[opT (decide ((q+1)%2=0)) B]++D by simp];rfl
 ·rw[decide_eq_false h,cond_false];obtain⟨T',D,y,H,j,I,h2,h3,Z,O⟩:=zjF (N:=N) (f:=f) (t:=t) (b:=b) (a:=a) (by_:=by_) (fl:=fl) (tl:=tl) (rp:=rp) (T:=T) (L:=L) J (by omega) U (by omega) (q:=q) (by omega) ha;exact⟨T',D,-1,y,H,j,⟨[],[],T',D,.inl ⟨rfl,rfl,rfl⟩,I,rfl,rfl⟩,by omega,by omega,Z,O⟩
end Go.Proofs.C06
end
section
set_option maxRecDepth 100000
namespace Go.Proofs.C06
open Go Go.RowKit Go.Vc Go.Am
variable {N : Nat} {f t b a at_ : Int} {by_ : uAS} {fl tl rp lv : List AV}
def howWs:List uAS:=[[67,72,65,82,65,67,84,69,82,83],[65,76,76],[76,69,65,68,73,78,71],[70,73,82,83,84]]
def qb(h last:Int)(x:R):List Token:=if h=1\/h≠last\/128<=x.uC then[kw (atS howWs (h-1))]else[]
def zT(x:R)(most:Int):Int:=1+x.uC%most
theorem zi3{x:R}{most:Int}(j:0<most)(H:most<=4):1<=zT x most/\zT x most<=4:=by have y:=uAJ x.uC (show most≠0 by omega);have B:=uAO x.uC j;unfold zT;omega
theorem zlD{T:List Token}{x:R}{most last:Int}(I:1100<N)(hT:T.length<=4990)(Z:0<=x.uC)(H:0<most)(O:most<=4):
  zlE N x most f t b a by_ at_ last (tkL T) fl tl rp lv=some (zT x most,f,t,b,a,by_,at_,zT x most,tkL (T++qb (zT x most) last x),fl,tl,rp,lv):=by
 obtain⟨b1,b2⟩:=zi3 (x:=x) H O;have U:IntKind.wrap .u8 (1+x.uC%most)=zT x most:=znR (show 0<=zT x most by omega) (show zT x most<256 by omega);have y:IntKind.wrap .u8 (zT x most-1)=zT x most-1:=znR (by omega) (by omega);unfold zlE zy2;rw[show zh x.uC=true from decide_eq_true Z,decide_eq_true H,nM,za,U];have B:YS N (zT x most) true f t b a by_ at_ last (tkL T) fl tl rp lv=some (.inr (zT x most,f,t,b,a,by_,at_,zT x most,tkL (T++[kw (atS howWs (zT x most-1))]),fl,tl,rp,lv)):=by unfold YS;rw[cond_true,y,zB.2 ⟨by omega,by show zT x most-1<4;omega⟩,za,za];have:=yM (N:=N) (f:=f) (t:=t) (b:=b) (a:=a) (by_:=by_) (at_:=at_) (fl:=fl) (tl:=tl) (rp:=rp) (lv:=lv) (s:=[atS howWs (zT x most-1)]) (T:=T) (by simp) I (by simp;omega);exact (congrArg (fun z=>bnd z _) this).trans rfl
 have J:YS N (zT x most) false f t b a by_ at_ last (tkL T) fl tl rp lv=some (.inl (zT x most,f,t,b,a,by_,at_,zT x most,tkL T,fl,tl,rp,lv)):=rfl;unfold qb;by_cases j:zT x most=1
 ·rw[decide_eq_true j,cond_true,B,ze,if_pos (.inl j)];rfl
 ·rw[decide_eq_false j,cond_false];by_cases c2:zT x most=last
  ·rw[decide_eq_true c2,mP,cond_false];by_cases c3:128<=x.uC
   ·rw[decide_eq_true c3,B,ze,if_pos (.inr (.inr c3))];rfl
   ·rw[decide_eq_false c3,J,ze,if_neg (fun h=>h.elim j fun h=>h.elim (fun h=>h c2) c3),mM];rfl
  ·rw[decide_eq_false c2,nT,cond_true,B,ze,if_pos (.inr (.inl c2))];rfl
end Go.Proofs.C06
end
section
set_option maxRecDepth 100000
namespace Go.Proofs.C06
open Go Go.RowKit Go.Vc Go.Am
def Sep(R:List Token):Prop:=isT R 0 1 [[79,70],[73,78]]=false/\isT R 0 5 [[40]]=false
theorem zAu(A R:List Token)(k:Int)(w:List uAS):isT (A++R) A.length k w=isT R 0 k w:=by unfold isT;rw[nD (mA _),Nat.sub_self]
theorem zfj{ts:List Token}{n:Nat}(h:isT ts n 5 [[40]]=false):grp ts n=(0,false):=by unfold grp;rw[h];rfl
theorem ztL{e:Bool}{s:uAS}{R:List Token}(B:Sep R):opd (opT e s++R)=((opT e s).length,0):=by
 cases e with
 |true=>
  show opd (tok 3 s::R)=(1,0)
  unfold opd;rw[if_neg (show¬nmT (tok 3 s::R) 0=true by simp[nmT,tok])];show(if(tok 3 s).uG=2\/(tok 3 s).uG=3\/_ then((1,0):Nat×Int)else(0,4))=(1,0)
  rw[if_pos (.inr (.inl rfl))]
 |false=>
  have I:nmT ([tok 1 [88],tok 5 [40],tok 2 [49],tok 5 [41]]++R) 0=true:=by show(decide ((1:Int)=1)&&decide (jy [88] jd=0))=true;rw[show jy [88] jd=0 by rfl];rfl
  show opd ([tok 1 [88],tok 5 [40],tok 2 [49],tok 5 [41]]++R)=(4,0)
  unfold opd;rw[if_pos I];refine Prod.ext ?_ rfl;dsimp only;have y:ofN ([tok 1 [88],tok 5 [40],tok 2 [49],tok 5 [41]]++R) ([tok 1 [88],tok 5 [40],tok 2 [49],tok 5 [41]]++R).length 1=1:=by show ofN _ (R.length+4) 1=1;rw[ofN];rfl
  rw[y];have H:grp ([tok 1 [88],tok 5 [40],tok 2 [49],tok 5 [41]]++R) 1=(3,false):=by rfl
  have j:grp ([tok 1 [88],tok 5 [40],tok 2 [49],tok 5 [41]]++R) 4=(0,false):=zfj ((zAu [tok 1 [88],tok 5 [40],tok 2 [49],tok 5 [41]] R 5 _).trans B.2);have j:grp ([tok 1 [88],tok 5 [40],tok 2 [49],tok 5 [41]]++R) (1+((3,false):Nat×Bool).1)=(0,false):=j;unfold opG;rw[H,j];rfl
theorem ztM{l:List Token}(h:Xj l):1<=l.length:=by obtain⟨e,s,rfl⟩:=h;cases e<;>simp[opT]
variable {ts : List Token} {p : Nat} {L : Lv}
theorem XE{o R:List Token}(ho:Xj o)(y:Sep R)(j:ts.drop p=o++R):nextM ts p L=((L.length:Int),true,p+o.length,L++[o]):=by obtain⟨e,s,rfl⟩:=ho;unfold nextM;rw[j,ztL y,if_pos rfl];dsimp only;rw[List.take_left]
theorem jB{A R:List Token}(j:ts.drop p=A++R):ts.drop (p+A.length)=R:=by rw[<-mT,j,List.drop_left]
theorem jm{x:Token}{R:List Token}(j:ts.drop p=x::R):ts.drop (p+1)=R:=jB (A:=[x]) j
end Go.Proofs.C06
end
section
set_option maxRecDepth 100000
namespace Go.Proofs.C06
open Go Go.RowKit Go.Vc Go.Am
variable {ts : List Token} {p : Nat} {L : Lv}
theorem zpf{o R:List Token}(ho:Xj o){w:uAS}(j:w≠[88]):hdW w (o++R)=false:=by
 obtain⟨e,s,rfl⟩:=ho;cases e with
 |true=>rfl
 |false=>show(decide ((1:Int)=1)&&decide (([88]:uAS)=w))=false;rw[decide_eq_false (show¬([88]:uAS)=w from fun h=>j h.symm),Bool.and_false]
theorem zgN{k:Nat}{x y:Int}(B:x<0->hdW [66,69,70,79,82,69] (ts.drop p)=false)(j:y<0->hdW [65,70,84,69,82] (ts.drop p)=false):yF ts k x y p L=(x,y,true,p,L):=by
 cases k with
 |zero=>rfl
 |succ k=>unfold yF;rw[if_neg (fun h=>by have:=B h.1;rw[this]at h;exact absurd h.2 (by simp)),if_neg (fun h=>by have:=j h.1;rw[this]at h;exact absurd h.2 (by simp))]
structure NoLim(R:List Token):Prop where
 s:Sep R
 b:hdW [66,69,70,79,82,69] R=false
 a:hdW [65,70,84,69,82] R=false
theorem zlH{T2 R:List Token}{D2:Lv}{x y:Int}{k:Nat}(H:NoLim R)(J:zlN zlI L.length T2 D2 y)(j:ts.drop p=T2++R):
  yF ts (k+1) x (-1) p L=(x,y,true,p+T2.length,L++D2):=by
 rcases J with⟨rfl,rfl,rfl⟩|⟨o,ho,rfl,rfl,rfl⟩
 ·rw[nJ]at j;rw[zgN (fun _=>by rw[j];exact H.b) (fun _=>by rw[j];exact H.a),mM];rfl
 ·have j:ts.drop p=kw [65,70,84,69,82]::(o++R):=by rw[j];rfl
  have B:=jm j;have O:q8 ts (p+1)=p+1:=by unfold q8;rw[B,zpf ho (by decide)];rfl
  have U:=XE (L:=L) ho H.s B;have I:=jB B;unfold yF;rw[if_neg (fun h=>by rw[j]at h;exact Bool.noConfusion (show false=true from h.2)),if_pos ⟨by decide,by rw[j];rfl⟩,O,U];dsimp only;rw[if_pos rfl,zgN (fun _=>by rw[I];exact H.b) (fun h=>by omega),kW];rw[show p+1+o.length=p+(zlI.length+o.length)by show _=p+(1+_);omega]
theorem zwL(l:List Token):Sep (zlI++l):=⟨rfl,rfl⟩
theorem zgM{T R:List Token}{D:Lv}{x y:Int}(J:NoLim R)(Z:zch L.length T D x y)(I:ts.drop p=T++R):
  yF ts 3 (-1) (-1) p L=(x,y,true,p+T.length,L++D):=by
 obtain⟨T1,D1,T2,D2,h1,O,rfl,rfl⟩:=Z;rcases h1 with⟨rfl,rfl,rfl⟩|⟨o,ho,rfl,rfl,rfl⟩
 ·exact zlH J O I
 ·have I:ts.drop p=kw [66,69,70,79,82,69]::kw [73,78,73,84,73,65,76]::(o++(T2++R)):=by rw[I];simp[zfP]
  have B:=jm I;have H:=jm B;have hi:q8 ts (p+1)=p+2:=by unfold q8;rw[B];rfl
  have hs:Sep (T2++R):=by
   rcases O with⟨rfl,_,_⟩|⟨o2,_,rfl,_,_⟩
   ·exact J.s
   ·rw[mB];exact zwL _
  have hn:=XE (L:=L) ho hs H;have U:=jB H;have j:(L++[o]).length=L.length+[o].length:=kW;rw[show(3:Nat)=2+1 from rfl,yF,if_pos ⟨by decide,by rw[I];rfl⟩,hi,hn];dsimp only;rw[if_pos rfl,zlH (k:=1) J (by rw[j];exact O) U,mB];rw[show p+2+o.length+T2.length=p+((zfP++o)++T2).length by rw[kW,kW];show _=p+(2+_+_);omega]
end Go.Proofs.C06
end
section
set_option maxRecDepth 100000
namespace Go.Proofs.C06
open Go Go.RowKit Go.Vc Go.Am
variable {ts : List Token} {p : Nat} {L : Lv}
def zBz(l:List Token):Prop:=Xj l\/l=[kw [83,80,65,67,69,83]]
theorem zoY{w:uAS}{R:List Token}(h:jy w jd=3):opd (kw w::R)=(1,0):=by
 have j:nmT (kw w::R) 0=false:=by show(decide ((1:Int)=1)&&decide (jy w jd=0))=false;rw[h];rfl
 unfold opd;rw[if_neg (by rw[j];simp)];show(if(1:Int)=2\/(1:Int)=3\/((1:Int)=1/\jy w jd=3)then((1,0):Nat×Int)else(0,4))=(1,0)
 rw[if_pos (.inr (.inr ⟨rfl,h⟩))]
theorem zoX{w:uAS}{R:List Token}(y:jy w jd≠0)(h:jy w jd≠3):opd (kw w::R)=(0,4):=by
 have j:nmT (kw w::R) 0=false:=by show(decide ((1:Int)=1)&&decide (jy w jd=0))=false;rw[decide_eq_false y];rfl
 unfold opd;rw[if_neg (by rw[j];simp)];show(if(1:Int)=2\/(1:Int)=3\/((1:Int)=1/\jy w jd=3)then((1,0):Nat×Int)else(0,4))=(0,4)
 rw[if_neg (fun x=>x.elim (by decide) fun x=>x.elim (by decide) fun x=>h x.2)]
theorem zyt{o R:List Token}(ho:zBz o)(y:Sep R)(j:ts.drop p=o++R):nextM ts p L=((L.length:Int),true,p+o.length,L++[o]):=by
 rcases ho with ho|rfl
 ·exact XE ho y j
 ·unfold nextM;have j:ts.drop p=kw [83,80,65,67,69,83]::R:=j;rw[j,zoY (by rfl),if_pos rfl];rfl
theorem zhN{w:uAS}{R:List Token}(h:w∉([[79,70],[73,78]]:List uAS)):Sep (kw w::R):=by refine⟨?_,rfl⟩;show(decide ((1:Int)=1)&&decide (w∈([[79,70],[73,78]]:List uAS)))=false;rw[decide_eq_false h];rfl
theorem zeq{k:Nat}{T R:List Token}{D:Lv}{x y:Int}(I:Sep R)(B:zch k T D x y):Sep (T++R):=by
 obtain⟨T1,D1,T2,D2,j,H,rfl,rfl⟩:=B;rcases j with⟨rfl,_,_⟩|⟨o,_,rfl,_,_⟩
 ·rcases H with⟨rfl,_,_⟩|⟨o2,_,rfl,_,_⟩
  ·exact I
  ·exact⟨rfl,rfl⟩
 ·exact⟨rfl,rfl⟩
def What(how:Int)(k:Nat)(T:List Token)(D:Lv)(x:Int):Prop:=(how=1/\T=[]/\D=[]/\x= -1)\/(how≠1/\Xj T/\D=[T]/\x=(k:Int))
def ByE(by_:Bool)(k:Nat)(T:List Token)(D:Lv)(x:Int):Prop:=(by_=false/\T=[]/\D=[]/\x= -1)\/(by_=true/\∃o,zBz o/\T=kw [66,89]::o/\D=[o]/\x=(k:Int))
def RuleE(count how:Int)(by_:Bool)(k:Nat)(T:List Token)(D:Lv)(r:Rule):Prop:=∃T1 D1 T2 D2 T3 D3,What how k T1 D1 r.uE/\ByE by_ (k+D1.length) T2 D2 r.By/\zch (k+D1.length+D2.length) T3 D3 r.uK r.uI/\T=T1++(T2++T3)/\D=D1++(D2++D3)/\r.uD=count/\r.uC=how
theorem QB{count how:Int}{by_:Bool}{T R:List Token}{D:Lv}{r:Rule}(hR:NoLim R)(he:RuleE count how by_ L.length T D r)(I:ts.drop p=T++R):
  qG ts count how by_ p L=(r,true,p+T.length,L++D):=by
 obtain⟨T1,D1,T2,D2,T3,D3,h1,Z,U,rfl,rfl,c1,c2⟩:=he;obtain⟨O,J,H,rb,rbf,raf⟩:=r;dsimp only at h1 Z U c1 c2;subst c1 c2;have s3:Sep (T3++R):=zeq hR.s U;have s2:Sep (T2++(T3++R)):=by
  rcases Z with⟨_,rfl,_,_⟩|⟨_,o,_,rfl,_,_⟩
  ·exact s3
  ·exact zhN (by decide)
 have I:ts.drop p=T1++(T2++(T3++R)):=by rw[I];simp
 have hw:ZA ts O J p L=(⟨O,J,H,-1,0,0⟩,true,p+T1.length,L++D1):=by
  unfold ZA;rcases h1 with⟨e,rfl,rfl,rfl⟩|⟨e,ho,rfl,rfl⟩
  ·rw[if_pos e,mM];rfl
  ·rw[if_neg e,XE ho s2 I]
 have B:=jB I;have hb:KB ts by_ (ZA ts O J p L)=(⟨O,J,H,rb,0,0⟩,true,p+T1.length+T2.length,L++D1++D2):=by
  rw[hw];unfold KB;dsimp only;rcases Z with⟨e,rfl,rfl,rfl⟩|⟨e,o,ho,rfl,rfl,rfl⟩
  ·subst e;rw[if_neg (by simp),mM];rfl
  ·subst e;have j:ts.drop (p+T1.length)=kw [66,89]::(o++(T3++R)):=B;rw[if_pos ⟨rfl,rfl⟩,if_pos (by rw[j];rfl),zyt ho s3 (jm j),kW];rw[show p+T1.length+1+o.length=p+T1.length+(kw [66,89]::o).length by rw[mC];omega]
 have hd3:=jB B;have y:(L++D1++D2).length=L.length+D1.length+D2.length:=by rw[kW,kW]
 unfold qG;rw[hb];unfold zb4;dsimp only;rw[if_pos rfl,zgM hR (by rw[y];exact U) hd3];dsimp only;rw[show p+T1.length+T2.length+T3.length=p+(T1++(T2++T3)).length by rw[kW,kW];omega,show L++D1++D2++D3=L++(D1++(D2++D3))by simp]
end Go.Proofs.C06
end
section
set_option maxRecDepth 100000
namespace Go.Proofs.C06
open Go Go.RowKit Go.Vc Go.Am
theorem zzX{o R:List Token}(ho:Xj o):Sep (o++R):=by
 obtain⟨e,s,rfl⟩:=ho;cases e with
 |true=>exact⟨rfl,rfl⟩
 |false=>exact⟨rfl,rfl⟩
theorem ztQ{o R:List Token}(ho:Xj o):NoLim (o++R):=⟨zzX ho,zpf ho (by decide),zpf ho (by decide)⟩
theorem zo7{by_:Bool}{o R:List Token}(ho:Xj o)(y:Sep R)(j:by_=true\/hdW [70,79,82] R=false):qh by_ (o++R)=true:=by
 obtain⟨e,s,rfl⟩:=ho;unfold qh;rw[ztL y];dsimp only;rw[List.drop_left,decide_eq_true rfl,uAc];rcases j with rfl|j
 ·rfl
 ·rw[j,Bool.and_false];cases by_<;>rfl
theorem zcD{by_:Bool}{w:uAS}{R:List Token}(j:jy w jd≠0)(h:jy w jd≠3):qh by_ (kw w::R)=false:=by unfold qh;rw[zoX j h];rfl
theorem Z4{w:uAS}{R:List Token}(B:w∉([[79,70],[73,78]]:List uAS))(j:w≠[66,69,70,79,82,69])(y:w≠[65,70,84,69,82]):NoLim (kw w::R):=by
 refine⟨zhN B,?_,?_⟩
 ·show(decide ((1:Int)=1)&&decide (w=[66,69,70,79,82,69]))=false;rw[decide_eq_false j];rfl
 ·show(decide ((1:Int)=1)&&decide (w=[65,70,84,69,82]))=false;rw[decide_eq_false y];rfl
theorem zpY:NoLim []:=⟨⟨rfl,rfl⟩,rfl,rfl⟩
end Go.Proofs.C06
end
section
set_option maxRecDepth 100000
namespace Go.Proofs.C06
open Go Go.RowKit Go.Vc Go.Am
theorem zuq{k:Nat}{T R:List Token}{D:Lv}{x y:Int}(j:hdW [70,79,82] R=false)(B:zch k T D x y):hdW [70,79,82] (T++R)=false:=by
 obtain⟨T1,D1,T2,D2,I,H,rfl,rfl⟩:=B;rcases I with⟨rfl,_,_⟩|⟨o,_,rfl,_,_⟩
 ·rcases H with⟨rfl,_,_⟩|⟨o2,_,rfl,_,_⟩
  ·exact j
  ·rfl
 ·rfl
theorem zhS{count how:Int}{by_:Bool}{k:Nat}{T R:List Token}{D:Lv}{r:Rule}(hh:how≠1)(y:RuleE count how by_ k T D r)(H:Sep R)(B:hdW [70,79,82] R=false):
  qh by_ (T++R)=true/\NoLim (T++R)/\hdW [70,79,82] (T++R)=false:=by
 obtain⟨T1,D1,T2,D2,T3,D3,I,J,j,rfl,rfl,_,_⟩:=y;rcases I with⟨e,_⟩|⟨_,ho,_,_⟩
 ·exact absurd e hh
 ·have O:Sep (T3++R):=zeq H j;have e:T1++(T2++T3)++R=T1++(T2++(T3++R)):=by simp
  rw[e];refine⟨?_,ztQ ho,zpf ho (by decide)⟩;rcases J with⟨_,rfl,_,_⟩|⟨U,o,_,rfl,_,_⟩
  ·exact zo7 (R:=T3++R) ho O (.inr (zuq (T:=T3) (R:=R) B j))
  ·exact zo7 ho (zhN (by decide)) (.inl U)
end Go.Proofs.C06
end
section
set_option maxRecDepth 100000
namespace Go.Proofs.C06
open Go Go.RowKit Go.Vc Go.Am
theorem WV{h:Int}{first:Bool}{R:List Token}(B:1<=h)(y:h<=4)(j:first=true\/h<=3):howM first (kw (atS howWs (h-1))::R)=h:=by
 have:h=1\/h=2\/h=3\/h=4:=by omega
 rcases this with rfl|rfl|rfl|rfl
 ·rfl
 ·rfl
 ·rfl
 ·rcases j with rfl|j
  ·rfl
  ·omega
theorem zkZ{first:Bool}{w:uAS}{R:List Token}(h:∀v∈howWs,w≠v):howM first (kw w::R)=0:=by
 have e:∀v∈howWs,hdW v (kw w::R)=false:=fun v hv=>by show(decide ((1:Int)=1)&&decide (w=v))=false;rw[decide_eq_false (h v hv)];rfl
 unfold howM;rw[e _ (by decide),e _ (by decide),e _ (by decide),e [70,73,82,83,84] (by decide),Bool.and_false];rfl
theorem zyB{first:Bool}:howM first []=0:=by cases first<;>rfl
theorem zoZ{w:uAS}{R:List Token}(h:jy w jd=0):opd (kw w::kw [70,79,82]::R)=(1,0):=by
 have y:nmT (kw w::kw [70,79,82]::R) 0=true:=by show(decide ((1:Int)=1)&&decide (jy w jd=0))=true;rw[h];rfl
 unfold opd;rw[if_pos y];refine Prod.ext ?_ rfl;show opG (kw w::kw [70,79,82]::R) (ofN (kw w::kw [70,79,82]::R) (R.length+2) 1)=1;rw[show ofN (kw w::kw [70,79,82]::R) (R.length+2) 1=1 by rw[ofN];rfl];have j:grp (kw w::kw [70,79,82]::R) 1=(0,false):=zfj rfl;unfold opG;rw[j];rfl
end Go.Proofs.C06
end
section
set_option maxRecDepth 100000
namespace Go.Proofs.C06
open Go Go.RowKit Go.Vc Go.Am
def cnW(g:Bool):uAS:=if g then[77]else[78]
def upC(c:Bool->Int)(g:Bool)(z:Int)(x:Bool):Int:=if x=g then z else c x
def CntE(c:Bool->Int)(g:Bool)(k:Nat)(z:Int)(D:Lv):Prop:=(0<=c g/\z=c g/\D=[])\/(c g<0/\z=(k:Int)/\D=[[kw (cnW g)]])
inductive Em(by_:Bool):(Bool->Int)->Int->Int->Nat->List Token->Lv->List Rule->Prop
 |nil {c:Bool->Int} {count last:Int} {k:Nat}:Em by_ c count last k [] [] []
 |cont {c:Bool->Int} {count last:Int} {k:Nat} {T T':List Token} {D D':Lv} {r:Rule} {rs:List Rule}:last≠1->1<=last->RuleE count last by_ k T D r->Em by_ c count last (k+D.length) T' D' rs->Em by_ c count last k (T++T') (D++D') (r::rs)
 |how {c:Bool->Int} {count last h:Int} {k:Nat} {T T':List Token} {D D':Lv} {r:Rule} {rs:List Rule}:(by_=true\/0<=count)->1<=h->h<=4->(by_=true\/h<=3)->RuleE count h by_ k T D r->Em by_ c count h (k+D.length) T' D' rs->
  Em by_ c count last k (kw (atS howWs (h-1))::(T++T')) (D++D') (r::rs)
 |cnt {c:Bool->Int} {count last h z:Int} {g:Bool} {k:Nat} {T T':List Token} {D0 D D':Lv} {r:Rule} {rs:List Rule}:by_=false->CntE c g k z D0->1<=h->h<=3->RuleE z h by_ (k+D0.length) T D r->Em by_ (upC c g z) z h (k+D0.length+D.length) T' D' rs->
  Em by_ c count last k (kw (cnW g)::kw [70,79,82]::kw (atS howWs (h-1))::(T++T')) (D0++(D++D')) (r::rs)
structure End(S:List Token):Prop where
 n:NoLim S
 f:hdW [70,79,82] S=false
 o:(opd S).2≠0
 w:∀first,howM first S=0
theorem zyJ:End []:=⟨zpY,rfl,by decide,fun _=>zyB⟩
theorem zuH{w:uAS}{R:List Token}(O:jy w jd≠0)(H:jy w jd≠3)(j:w∉([[79,70],[73,78],[66,69,70,79,82,69],[65,70,84,69,82],[70,79,82]]:List uAS))(hh:∀v∈howWs,w≠v):End (kw w::R):=by simp only[mS,List.not_mem_nil,or_false,not_or]at j;obtain⟨U,I,B,y,J⟩:=j;refine⟨Z4 (by simp[U,I]) B y,?_,by rw[zoX O H];simp,fun _=>zkZ hh⟩;show(decide ((1:Int)=1)&&decide (w=[70,79,82]))=false;rw[decide_eq_false J];rfl
theorem End.m{S:List Token}(h:End S)(by_:Bool):qh by_ S=false:=by unfold qh;rw[decide_eq_false h.o,uAq]
theorem KK{h:Int}(y:1<=h)(j:h<=4){P:uAS->Prop}(a:P [67,72,65,82,65,67,84,69,82,83])(b:P [65,76,76])(c:P [76,69,65,68,73,78,71])(d:P [70,73,82,83,84]):P (atS howWs (h-1)):=by
 have:h=1\/h=2\/h=3\/h=4:=by omega
 rcases this with rfl|rfl|rfl|rfl
 ·exact a
 ·exact b
 ·exact c
 ·exact d
theorem zud{h:Int}(y:1<=h)(j:h<=4){R:List Token}:NoLim (kw (atS howWs (h-1))::R)/\hdW [70,79,82] (kw (atS howWs (h-1))::R)=false:=
 KK (P:=fun w=>NoLim (kw w::R)/\hdW [70,79,82] (kw w::R)=false) y j
  ⟨Z4 (by decide) (by decide) (by decide),rfl⟩ ⟨Z4 (by decide) (by decide) (by decide),rfl⟩ ⟨Z4 (by decide) (by decide) (by decide),rfl⟩ ⟨Z4 (by decide) (by decide) (by decide),rfl⟩
theorem zaZ{h:Int}(y:1<=h)(j:h<=4){R:List Token}(by_:Bool):qh by_ (kw (atS howWs (h-1))::R)=false:=
 KK (P:=fun w=>qh by_ (kw w::R)=false) y j (zcD (by decide) (by decide)) (zcD (by decide) (by decide)) (zcD (by decide) (by decide)) (zcD (by decide) (by decide))
theorem zfJ(g:Bool):jy (cnW g) jd=0:=by cases g<;>rfl
theorem zyP(g:Bool){R:List Token}:NoLim (kw (cnW g)::R)/\hdW [70,79,82] (kw (cnW g)::R)=false:=by
 cases g
 ·exact⟨Z4 (by decide) (by decide) (by decide),rfl⟩
 ·exact⟨Z4 (by decide) (by decide) (by decide),rfl⟩
theorem zyQ(g:Bool){R:List Token}(first:Bool):howM first (kw (cnW g)::R)=0:=zkZ (by cases g<;>decide)
theorem zln(g:Bool){R:List Token}:nmT (kw (cnW g)::R) 0=true:=by show(decide ((1:Int)=1)&&decide (jy (cnW g) jd=0))=true;rw[zfJ];rfl
theorem zuQ(g:Bool){R:List Token}:qh false (kw (cnW g)::kw [70,79,82]::R)=false:=by unfold qh;rw[zoZ (zfJ g)];show(true&&(false||!(nmT [kw (cnW g)] 0&&true)))=false;rw[zln];rfl
theorem Yi{by_:Bool}{c:Bool->Int}{count last:Int}{k:Nat}{T:List Token}{D:Lv}{J:List Rule}(h:Em by_ c count last k T D J){S:List Token}(j:End S):NoLim (T++S)/\hdW [70,79,82] (T++S)=false:=by
 induction h with
 |nil=>exact⟨j.n,j.f⟩
 |cont y _ H _ ih=>rw[mB];exact (zhS y H ih.1.s ih.2).2
 |how _ B I _ _ _ _=>exact zud B I
 |cnt _ _ _ _ _ _ _=>exact zyP _
theorem zsh{count how:Int}{by_:Bool}{k:Nat}{T:List Token}{D:Lv}{r:Rule}(hh:how≠1)(j:RuleE count how by_ k T D r):1<=T.length:=by
 obtain⟨T1,D1,T2,D2,T3,D3,y,_,_,rfl,_,_,_⟩:=j;rcases y with⟨e,_⟩|⟨_,ho,_⟩
 ·exact absurd e hh
 ·have:=ztM ho;rw[kW];omega
theorem znm{by_:Bool}{c:Bool->Int}{count last:Int}{k:Nat}{T:List Token}{D:Lv}{j:List Rule}(h:Em by_ c count last k T D j):j.length<=T.length:=by
 induction h with
 |nil=>exact mA _
 |cont y _ B _ ih=>have:=zsh y B;rw[kW,mC];omega
 |how _ _ _ _ _ _ ih=>simp only[kW,mC];omega
 |cnt _ _ _ _ _ _ ih=>simp only[kW,mC];omega
def yD(ts:List Token)(count how:Int)(by_:Bool)(n:Nat)(out:List Rule)(p:Nat)(L:Lv):RuT:=if how=1\/qh by_ (ts.drop p)=false then(out,true,p,L)else j3 ts count how by_ n out p L
theorem Qp{ts:List Token}{count how:Int}{by_:Bool}{n:Nat}{out:List Rule}{p q:Nat}{L M:Lv}{r:Rule}(h:qG ts count how by_ p L=(r,true,q,M)):
  j3 ts count how by_ (n+1) out p L=yD ts count how by_ n (out++[r]) q M:=by
 unfold j3 yD;rw[h,if_pos rfl]
theorem Qo{ts:List Token}{count how:Int}{by_:Bool}{p q:Nat}{L M:Lv}{r:Rule}(h:qG ts count how by_ p L=(r,true,q,M)):
 zS ts count how by_ p L=yD ts count how by_ ts.length [r] q M:=Qp h
end Go.Proofs.C06
end
section
set_option maxRecDepth 100000
namespace Go.Proofs.C06
open Go Go.RowKit Go.Vc Go.Am
variable {ts : List Token}
def zpN(ts:List Token)(k:Nat)(R:List Rule)(p:Nat)(L:Lv):Bool×List Rule×Nat×Lv:=K8 ts k (howM true (ts.drop p)) R (p+(if howM true (ts.drop p)=0 then 0 else 1)) L
theorem zpM{k:Nat}{how:Int}{R out:List Rule}{p q:Nat}{L M:Lv}(j:0<how)(h:zS ts (-1) how true p L=(out,true,q,M)):K8 ts (k+1) how R p L=zpN ts k (R++out) q M:=by unfold K8 zpN;rw[if_pos j,h,if_pos rfl]
theorem zAe{S:List Token}(hS:End S){c:Bool->Int}{count last:Int}{k:Nat}{T:List Token}{D:Lv}{Z:List Rule}(h:Em true c count last k T D Z):∀(R out:List Rule)(p:Nat)(L:Lv)(J H:Nat),count= -1->L.length=k->ts.drop p=T++S->Z.length<J->Z.length<H->Z.length<ts.length->
  ∃j p' L',yD ts count last true J out p L=(j,true,p',L')/\zpN ts H (R++j) p' L'=(true,R++(out++Z),p+T.length,L++D):=by
 induction h with
 | @nil c count last k=>
  intro R out p L J H hc hL y O I hn;obtain⟨H,rfl⟩:∃m,H=m+1:=⟨H-1,by simp at I;omega⟩
  have y:ts.drop p=S:=y;refine⟨out,p,L,?_,?_⟩
  ·unfold yD;rw[if_pos (.inr (by rw[y];exact hS.m true))]
  ·unfold zpN;rw[y,hS.w true];unfold K8;rw[if_neg (by decide),mM,mM];rfl
 | @cont c count last k T T' D D' r Z hl hl1 hr B ih=>
  intro R out p L J H hc hL y O I hn;rw[mC]at O I hn;obtain⟨J,rfl⟩:∃m,J=m+1:=⟨J-1,by omega⟩
  obtain⟨g1,g2⟩:=Yi B hS;have y:ts.drop p=T++(T'++S):=by rw[y,mB]
  have U:=(zhS hl hr g1.s g2).1;subst hL;have ho:=QB g1 hr y;obtain⟨j,p',L',e1,e2⟩:=ih R (out++[r]) (p+T.length) (L++D) J H hc (by rw[kW]) (jB y) (by omega) (by omega) (by omega);refine⟨j,p',L',?_,?_⟩
  ·have:yD ts count last true (J+1) out p L=j3 ts count last true (J+1) out p L:=by rw[yD,if_neg (fun e=>e.elim hl fun e=>by rw[y,U]at e;cases e)]
   rw[this,Qp ho,e1]
  ·rw[e2,mB,mB,kW,Nat.add_assoc];rfl
 | @how c count last h k T T' D D' r Z _ h1 h4 _ hr B ih=>
  intro R out p L J H hc hL y O I hn;rw[mC]at O I hn;obtain⟨H,rfl⟩:∃m,H=m+1:=⟨H-1,by omega⟩
  obtain⟨g1,_⟩:=Yi B hS;have y:ts.drop p=kw (atS howWs (h-1))::(T++(T'++S)):=by rw[y,nQ,mB]
  have hd1:=jm y;subst hL;have ho:=QB g1 hr hd1;obtain⟨j,p',L',e1,e2⟩:=ih (R++out) [r] (p+1+T.length) (L++D) ts.length H hc (by rw[kW]) (jB hd1) (by omega) (by omega) (by omega);have hw:howM true (ts.drop p)=h:=by rw[y];exact WV h1 h4 (.inl rfl)
  refine⟨out,p,L,?_,?_⟩
  ·unfold yD;rw[if_pos (.inr (by rw[y];exact zaZ h1 h4 true))]
  ·unfold zpN;rw[hw,if_neg (by omega),zpM (out:=j) (q:=p') (M:=L') (by omega) (by rw[<-hc];exact (Qo ho).trans e1),e2];simp only[mB,kW,mC,List.singleton_append];rw[show p+1+T.length+T'.length=p+(T.length+T'.length+1)by omega]
 |cnt e _ _ _ _ _ _=>exact absurd e (by decide)
theorem ztd{S:List Token}(hS:End S){c:Bool->Int}{T:List Token}{D:Lv}{y:List Rule}{p:Nat}{L:Lv}(h:Em true c (-1) 0 L.length T D y)(I:y≠[])(j:ts.drop p=T++S)(hn:y.length<ts.length):
  howM true (ts.drop p)≠0/\K8 ts (ts.length+2) (howM true (ts.drop p)) [] (p+1) L=(true,y,p+T.length,L++D):=by
 have hk:∃k,k=L.length:=⟨_,rfl⟩
 obtain⟨out',p',L',Z,H⟩:=zAe (ts:=ts) hS h [] [] p L (ts.length+1) (ts.length+2) rfl rfl j (by omega) (by omega) hn;cases h with
 |nil=>exact absurd rfl I
 |cont _ B _ _=>exact absurd B (by decide)
 | @how _ _ _ h _ T T' D D' r y _ B O _ hr J=>
  have j:ts.drop p=kw (atS howWs (h-1))::(T++(T'++S)):=by rw[j,nQ,mB]
  have U:howM true (ts.drop p)=h:=by rw[j];exact WV B O (.inl rfl)
  have e3:yD ts (-1) 0 true (ts.length+1) [] p L=([],true,p,L):=by unfold yD;rw[if_pos (.inr (by rw[j];exact zaZ B O true))]
  rw[e3]at Z;cases Z;unfold zpN at H;rw[U,if_neg (show¬h=0 by omega)]at H;rw[U];exact⟨by omega,H⟩
 |cnt e _ _ _ _ _=>exact absurd e (by decide)
theorem zet(l:List Token):zeu l l=true:=decide_eq_true rfl
theorem zr7{g j:Bool}(h:g≠j):zeu [kw (cnW g)] [kw (cnW j)]=false:=by cases g<;>cases j<;>first|exact absurd rfl h|rfl
structure CI(c:Bool->Int)(R:List Rule)(L:Lv):Prop where
 k:CtOk R L
 f:∀g,(c g<0/\fndC L [kw (cnW g)] R=none)\/(0<=c g/\c g<L.length/\L.getD (c g).toNat []=[kw (cnW g)]/\fndC L [kw (cnW g)] R=some (c g))
theorem zfo{L D:Lv}{i:Nat}(h:i<L.length):(L++D).getD i []=L.getD i []:=by rw[mG,mG,mN h]
theorem zg6{D:Lv}{l:List Token}:∀{R:List Rule}{L:Lv},CtOk R L->fndC (L++D) l R=fndC L l R
 |[],_,_=>rfl
 |r::R,L,h=>by have y:=h r mV;unfold fndC;rw[zfo (by omega),zg6 (R:=R) fun x j=>h x (mU _ j)]
theorem zld{L:Lv}{l:List Token}{r:Rule}:∀{R:List Rule},fndC L l (R++[r])=(match fndC L l R with|some z=>some z|none=>if zeu (L.getD r.uD.toNat []) l then some r.uD else none)
 |[]=>rfl
 |x::R=>by
  show fndC L l (x::(R++[r]))=_;unfold fndC;split
  ·rfl
  ·exact zld (R:=R)
theorem znt{c:Bool->Int}{R:List Rule}{L D0 D:Lv}{g:Bool}{z:Int}{r:Rule}(h:CI c R L)(O:CntE c g L.length z D0)(U:r.uD=z):CI (upC c g z) (R++[r]) (L++D0++D):=by
 have y:0<=z/\z<(L++D0).length/\(L++D0).getD z.toNat []=[kw (cnW g)]:=by
  rcases O with⟨h0,rfl,rfl⟩|⟨h0,rfl,rfl⟩
  ·rcases h.f g with⟨e,_⟩|⟨_,e,j,_⟩
   ·omega
   ·rw[mM];exact⟨h0,e,j⟩
  ·refine⟨by omega,by rw[kW,mF];omega,?_⟩;rw[nA,mG,nD (mA _),Nat.sub_self];rfl
 have hg:(L++D0++D).getD z.toNat []=[kw (cnW g)]:=by rw[zfo (by omega)];exact y.2.2
 have Z:(L++D0).length<=(L++D0++D).length:=by have:=@kW _ (L++D0) D;omega
 have I:L.length<=(L++D0).length:=by rw[kW];omega
 refine⟨fun x B=>?_,fun J=>?_⟩
 ·rcases mQ.1 B with B|B
  ·have:=h.k x B;exact⟨this.1,by omega⟩
  ·rw[mD]at B;subst B;rw[U];exact⟨y.1,by omega⟩
 ·rw[zld,U,hg,mB,zg6 h.k];unfold upC;by_cases e:J=g
  ·subst e;rw[if_pos rfl,zet,if_pos rfl];refine .inr ⟨y.1,by rw[<-mB];omega,by rw[<-mB];exact hg,?_⟩;rcases h.f J with⟨H,j⟩|⟨H,_,_,j⟩
   ·rw[j]
   ·rw[j];rcases O with⟨_,rfl,_⟩|⟨e3,_,_⟩
    ·rfl
    ·omega
  ·rw[if_neg e,zr7 (fun x=>e x.symm),if_neg (by simp)];rcases h.f J with⟨H,j⟩|⟨H,e3,e4,j⟩
   ·rw[j];exact .inl ⟨H,rfl⟩
   ·rw[j];exact .inr ⟨H,by rw[<-mB];omega,by rw[zfo (by omega)];exact e4,rfl⟩
theorem zqX{c:Bool->Int}{g:Bool}:upC c g (c g)=c:=by
 funext x;unfold upC;split
 ·rename_i e;rw[e]
 ·rfl
theorem zuU{c:Bool->Int}{R:List Rule}{L D:Lv}{g:Bool}{r:Rule}(h:CI c R L)(y:0<=c g)(j:r.uD=c g):CI c (R++[r]) (L++D):=by have:=znt (D:=D) h (.inl ⟨y,rfl,rfl⟩) j;rwa [zqX,mM]at this
theorem zuP{c:Bool->Int}{R:List Rule}{L D0:Lv}{g:Bool}{z:Int}{p:Nat}{X:List Token}(h:CI c R L)(H:CntE c g L.length z D0)(j:ts.drop p=kw (cnW g)::kw [70,79,82]::X):
  jC ts R p L=(z,true,p+2,L++D0):=by
 have ho:opd (ts.drop p)=(1,0):=by rw[j];exact zoZ (zfJ g)
 have B:opP ts p=p+1:=by unfold opP;rw[ho]
 have y:opL ts p=[kw (cnW g)]:=by unfold opL;rw[ho,j];rfl
 have J:zju ts p=true:=by unfold zju;rw[ho,y,B,jm j,zln];rfl
 unfold jC;rw[if_pos J,y,B];rcases H with⟨I,rfl,rfl⟩|⟨I,rfl,rfl⟩
 ·rcases h.f g with⟨e,_⟩|⟨_,_,_,e⟩
  ·omega
  ·rw[e,mM]
 ·rcases h.f g with⟨_,e⟩|⟨e,_⟩
  ·rw[e]
  ·omega
end Go.Proofs.C06
end
section
set_option maxRecDepth 100000
namespace Go.Proofs.C06
open Go Go.RowKit Go.Vc Go.Am
variable {ts : List Token}
def zmX(ts:List Token)(count:Int)(k:Nat)(R:List Rule)(p:Nat)(L:Lv):Bool×List Rule×Nat×Lv:=Zs ts count k (howM false (ts.drop p)) R (p+(if howM false (ts.drop p)=0 then 0 else 1)) L
theorem zgU{k:Nat}{count how:Int}{R out:List Rule}{p q:Nat}{L M:Lv}(j:0<how)(h:zS ts count how false p L=(out,true,q,M)):Zs ts count (k+1) how R p L=zmX ts count k (R++out) q M:=by unfold Zs zmX;rw[if_pos j,h,if_pos rfl]
theorem zgV{k:Nat}{count:Int}{R:List Rule}{p:Nat}{L:Lv}(h:howM false (ts.drop p)=0):zmX ts count (k+1) R p L=(true,R,p,L):=by unfold zmX;rw[h];unfold Zs;rw[if_neg (by decide)];rfl
theorem Qq{count how:Int}{by_:Bool}{n:Nat}{out:List Rule}{p:Nat}{L:Lv}(h:qh by_ (ts.drop p)=false):yD ts count how by_ n out p L=(out,true,p,L):=by unfold yD;rw[if_pos (.inr h)]
theorem zn0{c:Bool->Int}{h z:Int}{g:Bool}{p:Nat}{L D0 D:Lv}{T X:List Token}{r:Rule}{first:Bool}{R:List Rule}{O:Nat}(hc:CI c R L)(hz:CntE c g L.length z D0)(h1:1<=h)(h3:h<=3)(hX:NoLim X)
  (hr:RuleE z h false (L.length+D0.length) T D r) (U:ts.drop p=kw (cnW g)::kw [70,79,82]::kw (atS howWs (h-1))::(T++X)) {j:List Rule} {J:Nat} {L':Lv} {R2:List Rule} {B:Nat} {L2:Lv} {w:Bool×List Rule×Nat×Lv}
  (e1:yD ts z h false ts.length [r] (p+3+T.length) (L++D0++D)=(j,true,J,L')) (Z:zmX ts z (ts.length+1) (R++j) J L'=(true,R2,B,L2)) (e3:JB ts O false R2 B L2=w):
  JB ts (O+1) first R p L=w:=by
 have y:ts.drop (p+2)=kw (atS howWs (h-1))::(T++X):=jm (p:=p+1) (jm U);have I:ts.drop (p+3)=T++X:=jm (p:=p+2) y;have H:=zuP (ts:=ts) hc hz U;have hw:howM false (ts.drop (p+2))=h:=by rw[y];exact WV h1 (by omega) (.inr h3)
 have ho:=QB (L:=L++D0) hX (by rw[kW];exact hr) I;have hi:Zs ts z (ts.length+2) h R (p+3) (L++D0)=(true,R2,B,L2):=by rw[zgU (by omega) ((Qo ho).trans e1),Z]
 unfold JB;rw[H,if_pos rfl];dsimp only;rw[hw,if_neg (show¬h=0 by omega),show p+2+1=p+3 from rfl,hi,if_pos rfl];exact e3
theorem zzH{S:List Token}(hS:End S){c:Bool->Int}{count last:Int}{k:Nat}{T:List Token}{D:Lv}{rs:List Rule}(h:Em false c count last k T D rs):∀(R out:List Rule)(p:Nat)(L:Lv)(Z H J:Nat),CI c (R++out) L->(∃g,count=c g/\0<=c g)->L.length=k->ts.drop p=T++S->rs.length<Z->rs.length<H->rs.length<J->rs.length<ts.length->
  ∃B p' L',yD ts count last false Z out p L=(B,true,p',L')/\∃R2 p2 L2,zmX ts count H (R++B) p' L'=(true,R2,p2,L2)/\JB ts J false R2 p2 L2=(true,R++(out++rs),p+T.length,L++D):=by
 induction h with
 | @nil c count last k=>
  intro R out p L Z H J hc hg hL j U I O hn;obtain⟨H,rfl⟩:∃m,H=m+1:=⟨H-1,by simp at I;omega⟩
  obtain⟨J,rfl⟩:∃m,J=m+1:=⟨J-1,by simp at O;omega⟩
  have j:ts.drop p=S:=j;refine⟨out,p,L,Qq (by rw[j];exact hS.m false),R++out,p,L,zgV (by rw[j];exact hS.w false),?_⟩;have hB:zju ts p=false:=by unfold zju;rw[j,decide_eq_false hS.o,uAq]
  have hM:jC ts (R++out) p L=(-1,false,p,L):=by unfold jC;rw[if_neg (by rw[hB];simp)]
  unfold JB;rw[hM,if_neg (by simp),mM,mM];rfl
 | @cont c count last k T T' D D' r rs hl hl1 hr y ih=>
  intro R out p L Z H J hc hg hL j U I O hn;rw[mC]at U I O hn;obtain⟨Z,rfl⟩:∃m,Z=m+1:=⟨Z-1,by omega⟩
  obtain⟨g1,g2⟩:=Yi y hS;have j:ts.drop p=T++(T'++S):=by rw[j,mB]
  have hmore:=(zhS hl hr g1.s g2).1;subst hL;have ho:=QB g1 hr j;obtain⟨g,hg1,hg2⟩:=hg;have hcr:r.uD=c g:=by obtain⟨_,_,_,_,_,_,_,_,_,_,_,e,_⟩:=hr;rw[e,hg1]
  obtain⟨B,p',L',e1,R2,p2,L2,e2,e3⟩:=ih R (out++[r]) (p+T.length) (L++D) Z H J (by rw[<-mB];exact zuU hc hg2 hcr) ⟨g,hg1,hg2⟩ (by rw[kW]) (jB j) (by omega) (by omega) (by omega) (by omega);refine⟨B,p',L',?_,R2,p2,L2,e2,?_⟩
  ·have:yD ts count last false (Z+1) out p L=j3 ts count last false (Z+1) out p L:=by rw[yD,if_neg (fun e=>e.elim hl fun e=>by rw[j,hmore]at e;cases e)]
   rw[this,Qp ho,e1]
  ·rw[e3,mB,mB,kW,Nat.add_assoc];rfl
 | @how c count last h k T T' D D' r rs _ h1 h4 h3 hr y ih=>
  intro R out p L Z H J hc hg hL j U I O hn;rw[mC]at U I O hn;obtain⟨H,rfl⟩:∃m,H=m+1:=⟨H-1,by omega⟩
  obtain⟨g1,_⟩:=Yi y hS;have h3:h<=3:=h3.resolve_left (by decide);have j:ts.drop p=kw (atS howWs (h-1))::(T++(T'++S)):=by rw[j,nQ,mB]
  have hd1:=jm j;subst hL;have ho:=QB g1 hr hd1;obtain⟨g,hg1,hg2⟩:=hg;have hcr:r.uD=c g:=by obtain⟨_,_,_,_,_,_,_,_,_,_,_,e,_⟩:=hr;rw[e,hg1]
  obtain⟨B,p',L',e1,R2,p2,L2,e2,e3⟩:=ih (R++out) [r] (p+1+T.length) (L++D) ts.length H J (zuU hc hg2 hcr) ⟨g,hg1,hg2⟩ (by rw[kW]) (jB hd1) (by omega) (by omega) (by omega) (by omega);have hw:howM false (ts.drop p)=h:=by rw[j];exact WV h1 h4 (.inr h3)
  refine⟨out,p,L,Qq (by rw[j];exact zaZ h1 h4 false),R2,p2,L2,?_,?_⟩
  ·unfold zmX;rw[hw,if_neg (by omega),zgU (by omega) ((Qo ho).trans e1),e2]
  ·rw[e3];simp only[mB,kW,mC,List.singleton_append];rw[show p+1+T.length+T'.length=p+(T.length+T'.length+1)by omega]
 | @cnt c count last h z g k T T' D0 D D' r rs _ hz h1 h3 hr y ih=>
  intro R out p L Z H J hc _ hL j U I O hn;rw[mC]at U I O hn;obtain⟨H,rfl⟩:∃m,H=m+1:=⟨H-1,by omega⟩
  obtain⟨J,rfl⟩:∃m,J=m+1:=⟨J-1,by omega⟩
  obtain⟨g1,_⟩:=Yi y hS;have j:ts.drop p=kw (cnW g)::kw [70,79,82]::kw (atS howWs (h-1))::(T++(T'++S)):=by rw[j];simp only[nQ,mB]
  subst hL;have hcr:r.uD=z:=by obtain⟨_,_,_,_,_,_,_,_,_,_,_,e,_⟩:=hr;exact e
  have hz0:0<=upC c g z g:=by unfold upC;rw[if_pos rfl];rcases hz with⟨h0,rfl,_⟩|⟨_,rfl,_⟩<;>omega
  obtain⟨B,p',L',e1,R2,p2,L2,e2,e3⟩:=ih (R++out) [r] (p+3+T.length) (L++D0++D) ts.length (ts.length+1) J (znt hc hz hcr) ⟨g,by unfold upC;rw[if_pos rfl],hz0⟩ (by rw[kW,kW]) (jB (jm (p:=p+2) (jm (p:=p+1) (jm j)))) (by omega) (by omega) (by omega) (by omega);refine⟨out,p,L,Qq (by rw[j];exact zuQ g),R++out,p,L,zgV (by rw[j];exact zyQ g false),?_⟩;rw[zn0 (first:=false) hc hz h1 h3 g1 hr j e1 e2 e3];simp only[mB,kW,mC,List.singleton_append];rw[show p+3+T.length+T'.length=p+(T.length+T'.length+1+1+1)by omega]
def noC:Bool->Int:=fun _=> -1
theorem zuT{L:Lv}:CI noC [] L:=⟨fun r j=>(by cases j),fun g=>.inl ⟨show(-1:Int)<0 by decide,rfl⟩⟩
theorem zj5{S:List Token}(hS:End S){T:List Token}{D:Lv}{y:List Rule}{p:Nat}{L:Lv}(h:Em false noC (-1) 0 L.length T D y)(H:y≠[])(B:ts.drop p=T++S)(hn:y.length<ts.length):
  JB ts (ts.length+1) true [] p L=(true,y,p+T.length,L++D):=by
 cases h with
 |nil=>exact absurd rfl H
 |cont _ I _ _=>exact absurd I (by decide)
 |how e _ _ _ _ _=>rcases e with e|e<;>exact absurd e (by decide)
 | @cnt _ _ _ h z g _ T T' D0 D D' r y _ U I h3 Z j=>
  rw[mC]at hn;obtain⟨g1,_⟩:=Yi j hS;have B:ts.drop p=kw (cnW g)::kw [70,79,82]::kw (atS howWs (h-1))::(T++(T'++S)):=by rw[B];simp only[nQ,mB]
  have O:r.uD=z:=by obtain⟨_,_,_,_,_,_,_,_,_,_,_,e,_⟩:=Z;exact e
  have J:0<=upC noC g z g:=by unfold upC;rw[if_pos rfl];rcases U with⟨h0,rfl,_⟩|⟨_,rfl,_⟩<;>omega
  obtain⟨out',p',L',e1,R2,p2,L2,e2,e3⟩:=zzH (ts:=ts) hS j [] [r] (p+3+T.length) (L++D0++D) ts.length (ts.length+1) ts.length (znt zuT U O) ⟨g,by unfold upC;rw[if_pos rfl],J⟩ (by rw[kW,kW]) (jB (jm (p:=p+2) (jm (p:=p+1) (jm B)))) (by omega) (by omega) (by omega) (by omega);rw[zn0 (first:=true) zuT U I h3 g1 Z B e1 e2 e3];simp only[mB,kW,mC,List.singleton_append,nJ];rw[show p+3+T.length+T'.length=p+(T.length+T'.length+1+1+1)by omega]
end Go.Proofs.C06
end
section
set_option maxRecDepth 100000
namespace Go.Proofs.C06
open Go Go.RowKit Go.Vc Go.Am
def rR(x:R):AV:=.agg [.int .u8 x.uC,.int .u8 x.uE,.int .u8 x.By,.int .u8 x.uK,.int .u8 x.uI]
structure InRq(x:R):Prop where
 a:0<=x.uC/\x.uC<=255
 b:0<=x.uE/\x.uE<=255
 c:0<=x.By/\x.By<=255
 d:0<=x.uK/\x.uK<=255
 e:0<=x.uI/\x.uI<=255
section
variable {xs : List R} {i : Nat} (h : i < xs.length)
include h
theorem zeH:atV (xs.map rR) (i:Int)=rR xs[i]:=by rw[Xh,mG,mX,kZ h];rfl
theorem zkw:zw (i:Int) (xs.map rR).length=true:=zB.2 ⟨by omega,by rw[mE];omega⟩
theorem zeG:(zw (i:Int) (xs.map rR).length&&(jS (atV (xs.map rR) (i:Int)) 5&&(zd .u8 (zb (atV (xs.map rR) (i:Int)) 0)&&(zd .u8 (zb (atV (xs.map rR) (i:Int)) 1)&&(zd .u8 (zb (atV (xs.map rR) (i:Int)) 2)&&(zd .u8 (zb (atV (xs.map rR) (i:Int)) 3)&&(zd .u8 (zb (atV (xs.map rR) (i:Int)) 4)&&true)))))))=true:=by rw[zkw h,zeH h];rfl
theorem zkv:R.mk (Am.zp (zb (atV (xs.map rR) (i:Int)) 0)) (Am.zp (zb (atV (xs.map rR) (i:Int)) 1)) (Am.zp (zb (atV (xs.map rR) (i:Int)) 2)) (Am.zp (zb (atV (xs.map rR) (i:Int)) 3)) (Am.zp (zb (atV (xs.map rR) (i:Int)) 4))=xs[i]:=by rw[zeH h];rfl
theorem zzk:Am.zp (zb (atV (xs.map rR) (i:Int)) 1)=xs[i].uE:=by rw[zeH h];rfl
theorem ztn:Am.zp (zb (atV (xs.map rR) (i:Int)) 2)=xs[i].By:=by rw[zeH h];rfl
end
theorem zpa{w:List Token}{k:Nat}{T:List Token}{D:Lv}{x:Int}(h:zlN w k T D x):D.length<=T.length:=by
 rcases h with⟨rfl,rfl,_⟩|⟨o,ho,rfl,rfl,_⟩
 ·exact mA _
 ·have:=ztM ho;rw[kW,mF];omega
theorem WF{k:Nat}{T:List Token}{D:Lv}{x y:Int}(h:zch k T D x y):D.length<=T.length:=by obtain⟨T1,D1,T2,D2,B,j,rfl,rfl⟩:=h;have:=zpa B;have:=zpa j;rw[kW,kW];omega
variable {N : Nat} {f t b a : Int} {by_ : uAS} {fl tl rp : List AV} {Fd : Field} {T : List Token} {L : Lv} {Rt : List Rule} {q : Nat}
abbrev GoT:=(List AV)->Int->Int->Int->Int->Int->Int->uAS->Int->Field->(List Int)->Int->(List AV)->(List AV)->(List AV)->(List AV)->(List AV)->Option (Int×Int×Int×Int×uAS×Int×List AV×List AV×List AV×List AV×List AV)
theorem zqY{go0:GoT}{xs:List R}{i:Nat}(H:i<xs.length)(I:InRq xs[i])(hi2:i<=1000)(Z:1100<N)(hT:T.length<=4900)(O:fl.length=L.length)(hL:L.length<=4900)(hq:q<=4900)(hR:Rt.length<=5000){count last:Int}{cs:List Int}{r:Rule}:
  ∃T' D x y B j,zch L.length T' D x y/\T'.length<=11/\B<=q+3/\j.length=L.length+D.length/\
   Yn N go0 (xs.map rR) count (i:Int) f t b a by_ (q:Int) Fd cs last r (tkL T) fl (Rt.map rlV) rp (L.map lfB)=
    go0 (xs.map rR) count ((i+1:Nat):Int) f t b a by_ (B:Int) Fd cs last (tkL (T++T')) j ((Rt++[Rule.mk r.uD r.uC r.uE r.By x y]).map rlV) rp ((L++D).map lfB):=by
 obtain⟨T',D,x,y,B,j,U,h2,h3,h4,e⟩:=Xe (N:=N) (f:=f) (t:=t) (b:=b) (a:=a) (by_:=by_) (fl:=fl) (tl:=Rt.map rlV) (rp:=rp) (r:=xs[i]) Z hT O hL hq I.d.1 I.e.1;refine⟨T',D,x,y,B,j,U,h2,h3,h4,?_⟩;have J:Rt.map rlV++([.agg [.int .i64 r.uD,.int .u8 r.uC,.int .i64 r.uE,.int .i64 r.By,.int .i64 x,.int .i64 y]]:List AV)=(Rt++[Rule.mk r.uD r.uC r.uE r.By x y]).map rlV:=zhU Rt (Rule.mk r.uD r.uC r.uE r.By x y);unfold Yn;rw[zeG H,za,zkv H,e,ze];dsimp only;rw[J,JH (by rw[mE,kW,mF];omega),za,yu (by omega) (by omega),za];rfl
theorem zqZ{go0:GoT}{xs:List R}{i:Nat}(J:i<xs.length)(Z:InRq xs[i])(O:i<=1000)(hN:1100<N)(hT:T.length<=4800)(hf:fl.length=L.length)(hL:L.length<=4800)(hq:q<=4800)(hR:Rt.length<=5000){count last:Int}{cs:List Int}:
  ∃T' D r I j,RuleE count (zT xs[i] 3) false L.length T' D r/\T'.length<=15/\D.length<=15/\I<=q+6/\j.length=L.length+D.length/\
   qM N go0 (xs.map rR) count (i:Int) f t b a by_ (q:Int) Fd cs last (tkL T) fl (Rt.map rlV) rp (L.map lfB)=
    go0 (xs.map rR) count ((i+1:Nat):Int) f t b a by_ (I:Int) Fd cs (zT xs[i] 3) (tkL (T++(qb (zT xs[i] 3) last xs[i]++T'))) j ((Rt++[r]).map rlV) rp ((L++D).map lfB):=by
 have hw1:(qb (zT xs[i] 3) last xs[i]).length<=1:=by unfold qb;split<;>simp
 have a1:=uAJ xs[i].uE (show(3:Int)≠0 by decide);have a2:=uAO xs[i].uE (show(0:Int)<3 by decide);have hb:=Z.b;unfold qM;rw[zeG J,za,zkv J,zlD (x:=xs[i]) (most:=3) hN (by omega) Z.a.1 (by decide) (by decide),ze,zzk J];dsimp only;by_cases U:zT xs[i] 3=1
 ·rw[decide_eq_true U,mP,cond_false];obtain⟨T',D,x,y,I,j,H,g2,g3,g4,e⟩:=zqY (N:=N) (f:=f) (t:=t) (b:=b) (a:=a) (by_:=by_) (fl:=fl) (rp:=rp) (Fd:=Fd) (T:=T++qb (zT xs[i] 3) last xs[i]) (L:=L) (Rt:=Rt) (q:=q) (go0:=go0) J Z O hN (by rw[kW];omega) hf (by omega) (by omega) hR (count:=count) (last:=zT xs[i] 3) (cs:=cs) (r:=⟨count,zT xs[i] 3,-1,-1,0,0⟩);have:=WF H;refine⟨T',D,⟨count,zT xs[i] 3,-1,-1,x,y⟩,I,j,⟨[],[],[],[],T',D,.inl ⟨U,rfl,rfl,rfl⟩,.inl ⟨rfl,rfl,rfl,rfl⟩,H,rfl,rfl,rfl,rfl⟩,by omega,by omega,by omega,g4,?_⟩;rw[<-mB];exact e
 ·obtain⟨n,hn⟩:∃n:Nat,1+xs[i].uE%3=(n:Int):=⟨(1+xs[i].uE%3).toNat,by omega⟩
  obtain⟨B,F,e⟩:=yx (N:=N) (f:=f) (t:=t) (b:=b) (a:=a) (by_:=by_) (fl:=fl) (tl:=Rt.map rlV) (rp:=rp) (T:=T++qb (zT xs[i] 3) last xs[i]) (L:=L) hN (by rw[kW];omega) hf (by omega) (n:=n) (by omega) (q:=q) (by omega);have hl:=XC (decide ((q+n)%2=0)) B;rw[decide_eq_false U,nT,cond_true,za,show zh xs[i].uE=true from decide_eq_true hb.1,decide_eq_true (show(0:Nat)<3 by decide),nM,za,yu (by omega) (by omega),za,hn,yu (by omega) (by omega),za,e,ze];dsimp only;obtain⟨T',D,x,y,I,j,H,g2,g3,g4,e2⟩:=zqY (N:=N) (f:=f) (t:=t) (b:=b) (a:=a) (by_:=by_) (fl:=fl++[fdV F]) (rp:=rp) (Fd:=Fd) (T:=T++qb (zT xs[i] 3) last xs[i]++opT (decide ((q+n)%2=0)) B) (L:=L++[opT (decide ((q+n)%2=0)) B]) (Rt:=Rt) (q:=q+n) (go0:=go0) J Z O hN (by rw[kW,kW];omega) (by rw[kW,kW,hf];rfl) (by rw[kW,mF];omega) (by omega) hR (count:=count) (last:=zT xs[i] 3) (cs:=cs) (r:=⟨count,zT xs[i] 3,(L.length:Int),-1,0,0⟩);have:=WF H;rw[kW,mF]at H g4;refine⟨opT (decide ((q+n)%2=0)) B++T',[opT (decide ((q+n)%2=0)) B]++D,⟨count,zT xs[i] 3,(L.length:Int),-1,x,y⟩,I,j,⟨opT (decide ((q+n)%2=0)) B,[opT (decide ((q+n)%2=0)) B],[],[],T',D,.inr ⟨U,⟨_,_,rfl⟩,rfl,rfl⟩,.inl ⟨rfl,rfl,rfl,rfl⟩,H,rfl,rfl,rfl,rfl⟩,by rw[kW];omega,by rw[kW,mF];omega,by omega,by rw[kW,mF];omega,?_⟩;rw[show T++(qb (zT xs[i] 3) last xs[i]++(opT (decide ((q+n)%2=0)) B++T'))=T++qb (zT xs[i] 3) last xs[i]++opT (decide ((q+n)%2=0)) B++T' by simp,show L++([opT (decide ((q+n)%2=0)) B]++D)=L++[opT (decide ((q+n)%2=0)) B]++D by simp];exact e2
def gI(g:Bool):Int:=if g then 1 else 0
theorem zzG{go0:GoT}{l:List AV}{i count last:Int}{c:Bool->Int}(g:Bool)(hN:1100<N)(hT:T.length<=4900)(hf:fl.length=L.length)(hL:L.length<=4900):
  ∃D0 z j,CntE c g L.length z D0/\D0.length<=1/\j.length=L.length+D0.length/\
   yi N go0 l count i (gI g) true f t b a by_ (q:Int) Fd [c false,c true] last (tkL T) fl tl rp (L.map lfB)=
    qM N go0 l z i f t b a by_ (q:Int) Fd [upC c g z false,upC c g z true] 0 (tkL (T++[kw (cnW g),kw [70,79,82]])) j tl rp ((L++D0).map lfB):=by
 have key:∀(cs y:List Int)(w:uAS)(k:Int)(H:Int),zw k 2=true->atS ([[78],[77]]:List uAS) k=w->cs.length=2->y.length=2->atI cs k=H->cs.set k.toNat (L.length:Int)=y->atI y k=(L.length:Int)->
   ∃D0 z j,((0<=H/\z=H/\D0=[])\/(H<0/\z=(L.length:Int)/\D0=[[kw w]]))/\D0.length<=1/\j.length=L.length+D0.length/\
    yi N go0 l count i k true f t b a by_ (q:Int) Fd cs last (tkL T) fl tl rp (L.map lfB)=
     qM N go0 l z i f t b a by_ (q:Int) Fd (if H<0 then y else cs) 0 (tkL (T++[kw w,kw [70,79,82]])) j tl rp ((L++D0).map lfB):=by
  intro cs y w k H hk hw I h2' hz O Z;have U:zw k ([[78],[77]]:List uAS).length=true:=hk;have ew:zX N 1 w=some (kw w):=rfl;unfold yi;rw[cond_true,U,za,za,hw,ew,ze,I,hk,za,za,hz];by_cases B:H<0
  ·have hb:=Xf (N:=N) (f:=f) (t:=t) (b:=b) (a:=a) (by_:=by_) (at_:=(q:Int)) (fl:=fl) (tl:=tl) (rp:=rp) (l:=[kw w]) (T:=T) (F:=Fd) (L:=L) (by simp;omega) hf (by omega);have hb:qN N ([.agg [.int .u8 (kw w).uG,.str (kw w).uH,.int .i64 (kw w).uO,.int .i64 (kw w).uP,.bool (kw w).uQ]]:List AV) Fd f t b a by_ (q:Int) (tkL T) fl tl rp (L.map lfB)=_:=hb;refine⟨[[kw w]],(L.length:Int),fl++[fdV Fd],.inr ⟨B,rfl,rfl⟩,by simp,by simp[hf],?_⟩;rw[decide_eq_true B,cond_true,hb,ze];dsimp only;rw[za,za,if_pos B,O];unfold Ym;rw[h2',hk,za,za,yM (s:=[[70,79,82]]) (by simp) hN (by simp;omega),ze,Z,mB];rfl
  ·refine⟨[],H,fl,.inl ⟨by omega,rfl,rfl⟩,by simp,by simpa using hf,?_⟩;have es:tkL T++([.agg [.int .u8 (kw w).uG,.str (kw w).uH,.int .i64 (kw w).uO,.int .i64 (kw w).uP,.bool (kw w).uQ]]:List AV)=tkL (T++[kw w]):=K3 T 1 w;rw[decide_eq_false B,cond_false,es,JH (by rw[z8,kW,mF];omega),za,if_neg B];unfold Ym;rw[I,hk,za,za,yM (s:=[[70,79,82]]) (by simp) hN (by simp;omega),ze,hz,mB,mM];rfl
 cases g with
 |false=>
  obtain⟨D0,z,j,J,I,h3,e⟩:=key [c false,c true] [(L.length:Int),c true] [78] 0 (c false) rfl rfl rfl rfl rfl rfl rfl;refine⟨D0,z,j,J,I,h3,?_⟩;have:(if c false<0 then[(L.length:Int),c true]else[c false,c true])=[upC c false z false,upC c false z true]:=by
   show _=[z,c true]
   rcases J with⟨B,rfl,_⟩|⟨B,rfl,_⟩
   ·rw[if_neg (by omega)]
   ·rw[if_pos B]
  rw[this]at e;exact e
 |true=>
  obtain⟨D0,z,j,J,I,h3,e⟩:=key [c false,c true] [c false,(L.length:Int)] [77] 1 (c true) rfl rfl rfl rfl rfl rfl rfl;refine⟨D0,z,j,J,I,h3,?_⟩;have:(if c true<0 then[c false,(L.length:Int)]else[c false,c true])=[upC c true z false,upC c true z true]:=by
   show _=[c false,z]
   rcases J with⟨B,rfl,_⟩|⟨B,rfl,_⟩
   ·rw[if_neg (by omega)]
   ·rw[if_pos B]
  rw[this]at e;exact e
end Go.Proofs.C06
end
section
set_option maxRecDepth 100000
namespace Go.Proofs.C06
open Go Go.RowKit Go.Vc Go.Am
variable {N : Nat} {f t b a : Int} {by_ : uAS} {rp : List AV} {Fd : Field}
theorem Xb{xs:List R}(B:∀x∈xs,InRq x)(hl:xs.length<=100)(hN:1100<N):∀(k i:Nat)(c:Bool->Int)(count last:Int)(T:List Token)(L:Lv)(Rt:List Rule)(q:Nat)(fl:List AV),i<=xs.length->xs.length-i<k->(i=0\/0<=count)->
  T.length+20*(xs.length-i)<=4500->L.length+20*(xs.length-i)<=4500->q+10*(xs.length-i)<=4500->Rt.length+(xs.length-i)<=4500->fl.length=L.length->
  ∃T' D y q' I,Em false c count last L.length T' D y/\T'.length<=20*(xs.length-i)/\D.length<=20*(xs.length-i)/\y.length=xs.length-i/\q'<=q+10*(xs.length-i)/\I.length=L.length+D.length/\
   jp N k (xs.map rR) count (i:Int) f t b a by_ (q:Int) Fd [c false,c true] last (tkL T) fl (Rt.map rlV) rp (L.map lfB)=some (f,t,b,a,by_,(q':Int),tkL (T++T'),I,(Rt++y).map rlV,rp,(L++D).map lfB)
 |0,_,_,_,_,_,_,_,_,_,_,h,_,_,_,_,_,_=>by omega
 |k+1,i,c,count,last,T,L,Rt,q,fl,hi,hk,hcount,hT,hL,hq,hR,hf=>by
  show∃T' D y q' I,_/\_/\_/\_/\_/\_/\Xc N (jp N k) (xs.map rR) count (i:Int) f t b a by_ (q:Int) Fd [c false,c true] last (tkL T) fl (Rt.map rlV) rp (L.map lfB)=_;unfold Xc;by_cases h:i<xs.length
  ·have hx:=B xs[i] (uAz h);obtain⟨b1,b2⟩:=zi3 (x:=xs[i]) (most:=3) (by decide) (by decide);have b3:zT xs[i] 3<=3:=by have:=uAO xs[i].uC (show(0:Int)<3 by decide);unfold zT;omega
   have hby:=hx.c;obtain⟨g,hg⟩:∃g,xs[i].By%2=gI g:=by
    rcases(show xs[i].By%2=0\/xs[i].By%2=1 by omega)with e|e
    ·exact⟨false,e⟩
    ·exact⟨true,e⟩
   have hstep:xs.length-i=(xs.length-(i+1))+1:=by omega
   rw[decide_eq_true (show(i:Int)<((xs.map rR).length:Int)by rw[mE];omega),cond_true,zeG h,za,ztn h,yu (by omega) (by omega),za,show zh xs[i].By=true from decide_eq_true hby.1,decide_eq_true (show(0:Nat)<2 by decide),nM,za,hg];by_cases hc:i=0\/128<=xs[i].By
   ·obtain⟨D0,z,fl1,hz,hD0,hf1,e1⟩:=zzG (N:=N) (f:=f) (t:=t) (b:=b) (a:=a) (by_:=by_) (fl:=fl) (tl:=Rt.map rlV) (rp:=rp) (Fd:=Fd) (T:=T) (L:=L) (q:=q) (go0:=jp N k) (l:=xs.map rR) (i:=(i:Int)) (count:=count) (last:=last) (c:=c) g hN (by omega) hf (by omega);obtain⟨T1,D1,r,q1,H,hr,hT1,hD1,hq1,O,Z⟩:=zqZ (N:=N) (f:=f) (t:=t) (b:=b) (a:=a) (by_:=by_) (fl:=fl1) (rp:=rp) (Fd:=Fd) (T:=T++[kw (cnW g),kw [70,79,82]]) (L:=L++D0) (Rt:=Rt) (q:=q) (go0:=jp N k) h hx (by omega) hN (by simp;omega) (by rw[hf1,kW]) (by rw[kW];omega) (by omega) (by omega) (count:=z) (last:=0) (cs:=[upC c g z false,upC c g z true]);have hw:qb (zT xs[i] 3) 0 xs[i]=[kw (atS howWs (zT xs[i] 3-1))]:=by unfold qb;rw[if_pos (.inr (.inl (by omega)))]
    rw[hw]at Z;have hz0:0<=z:=by rcases hz with⟨_,rfl,_⟩|⟨_,rfl,_⟩<;>omega
    obtain⟨T2,D2,y,q2,J,j,hT2,hD2,hrs,hq2,U,e3⟩:=Xb B hl hN k (i+1) (upC c g z) z (zT xs[i] 3) (T++[kw (cnW g),kw [70,79,82]]++([kw (atS howWs (zT xs[i] 3-1))]++T1)) (L++D0++D1) (Rt++[r]) q1 H (by omega) (by omega) (.inr hz0) (by simp only[kW,mC,uAC];omega) (by simp only[kW];omega) (by omega) (by rw[kW,mF];omega) (by rw[O];have:=@kW _ (L++D0) D1;omega);rw[kW]at hr;rw[kW,kW]at j;refine⟨kw (cnW g)::kw [70,79,82]::kw (atS howWs (zT xs[i] 3-1))::(T1++T2),D0++(D1++D2),r::y,q2,J,Em.cnt rfl hz b1 b3 hr j,by simp only[kW,mC];omega,by simp only[kW];omega,by rw[mC];omega,by omega,by rw[U];simp only[kW];omega,?_⟩;have e4:∀v,yi N (jp N k) (xs.map rR) count (i:Int) (gI g) true f t b a by_ (q:Int) Fd [c false,c true] last (tkL T) fl (Rt.map rlV) rp (L.map lfB)=v->cond (decide ((i:Int)=0)) (yi N (jp N k) (xs.map rR) count (i:Int) (gI g) true f t b a by_ (q:Int) Fd [c false,c true] last (tkL T) fl (Rt.map rlV) rp (L.map lfB)) (chk true (yi N (jp N k) (xs.map rR) count (i:Int) (gI g) (decide (128<=xs[i].By)) f t b a by_ (q:Int) Fd [c false,c true] last (tkL T) fl (Rt.map rlV) rp (L.map lfB)))=v:=by
     intro v hv;by_cases h0:i=0
     ·rw[decide_eq_true (show(i:Int)=0 by omega),cond_true,hv]
     ·rw[decide_eq_false (show¬(i:Int)=0 by omega),cond_false,za,decide_eq_true (hc.resolve_left h0),hv]
    refine e4 _ ?_;rw[e1,Z,e3];simp only[mB,nQ,nJ]
   ·have h0:i≠0:=fun e=>hc (.inl e)
    have h128:¬128<=xs[i].By:=fun e=>hc (.inr e)
    have hc0:0<=count:=hcount.resolve_left h0;obtain⟨T1,D1,r,q1,H,hr,hT1,hD1,hq1,O,Z⟩:=zqZ (N:=N) (f:=f) (t:=t) (b:=b) (a:=a) (by_:=by_) (fl:=fl) (rp:=rp) (Fd:=Fd) (T:=T) (L:=L) (Rt:=Rt) (q:=q) (go0:=jp N k) h hx (by omega) hN (by omega) hf (by omega) (by omega) (by omega) (count:=count) (last:=last) (cs:=[c false,c true]);have hw1:(qb (zT xs[i] 3) last xs[i]).length<=1:=by unfold qb;split<;>simp
    obtain⟨T2,D2,y,q2,J,j,hT2,hD2,hrs,hq2,U,e3⟩:=Xb B hl hN k (i+1) c count (zT xs[i] 3) (T++(qb (zT xs[i] 3) last xs[i]++T1)) (L++D1) (Rt++[r]) q1 H (by omega) (by omega) (.inr hc0) (by simp only[kW];omega) (by simp only[kW];omega) (by omega) (by rw[kW,mF];omega) (by rw[O,kW]);rw[kW]at j;refine⟨qb (zT xs[i] 3) last xs[i]++(T1++T2),D1++D2,r::y,q2,J,?_,by simp only[kW];omega,by simp only[kW];omega,by rw[mC];omega,by omega,by rw[U];simp only[kW];omega,?_⟩
    ·unfold qb;by_cases hw:zT xs[i] 3=1\/zT xs[i] 3≠last\/128<=xs[i].uC
     ·rw[if_pos hw,nQ,nJ];exact Em.how (.inr hc0) b1 b2 (.inr b3) hr j
     ·rw[if_neg hw,nJ];have e1:zT xs[i] 3≠1:=fun e=>hw (.inl e)
      have Z:zT xs[i] 3=last:=Classical.byContradiction fun e=>hw (.inr (.inl e))
      rw[Z]at e1 b1 hr j;exact Em.cont e1 b1 hr j
    ·rw[decide_eq_false (show¬(i:Int)=0 by omega),cond_false,za,decide_eq_false h128];unfold yi;rw[cond_false,Z,e3];simp only[mB,nQ,nJ]
  ·have e0:xs.length-i=0:=by omega
   rw[decide_eq_false (by rw[mE];omega),cond_false,e0];exact⟨[],[],[],q,fl,Em.nil,by simp,by simp,rfl,by omega,by simpa using hf,by rw[mM,mM,mM]⟩
theorem zqG{xs:List R}(H:∀x∈xs,InRq x)(J:xs.length<=100)(I:1100<N){T:List Token}{L:Lv}{q:Nat}{fl:List AV}(hT:T.length<=1000)(hL:L.length<=1000)(hq:q<=1000)(U:fl.length=L.length):
  ∃T' D y B j,Em false noC (-1) 0 L.length T' D y/\T'.length<=20*xs.length/\D.length<=20*xs.length/\y.length=xs.length/\B<=q+10*xs.length/\j.length=L.length+D.length/\
   KV N (xs.map rR) Fd f t b a by_ (q:Int) (tkL T) fl [] rp (L.map lfB)=some (f,t,b,a,by_,(B:Int),tkL (T++(kw [84,65,76,76,89,73,78,71]::T')),j,y.map rlV,rp,(L++D).map lfB):=by
 obtain⟨T',D,y,B,j,O,h2,h3,h4,h5,Z,e⟩:=Xb (N:=N) (f:=f) (t:=t) (b:=b) (a:=a) (by_:=by_) (rp:=rp) (Fd:=Fd) H J I N 0 noC (-1) 0 (T++[kw [84,65,76,76,89,73,78,71]]) L [] q fl (by omega) (by omega) (.inl rfl) (by simp only[kW,mF];omega) (by omega) (by omega) (by simp;omega) U;refine⟨T',D,y,B,j,O,by omega,by omega,by omega,by omega,Z,?_⟩;unfold KV;rw[yM (s:=[[84,65,76,76,89,73,78,71]]) (by simp) I (by simp;omega),ze];rw[mB]at e;exact e
end Go.Proofs.C06
end
section
set_option maxRecDepth 100000
namespace Go.Proofs.C06
open Go Go.RowKit Go.Vc Go.Am
variable {N : Nat} {f t b a : Int} {by_ : uAS} {fl tl : List AV} {T : List Token} {L : Lv} {Rt : List Rule} {q : Nat}
abbrev GoR:=(List AV)->Int->Int->Int->Int->Int->uAS->Int->Int->(List AV)->(List AV)->(List AV)->(List AV)->(List AV)->Option (Int×Int×Int×Int×uAS×Int×List AV×List AV×List AV×List AV×List AV)
theorem zti{go0:GoR}{xs:List R}{i:Nat}(H:i<xs.length)(I:InRq xs[i])(hi2:i<=1000)(Z:1100<N)(hT:T.length<=4900)(O:fl.length=L.length)(hL:L.length<=4900)(hq:q<=4900)(hR:Rt.length<=5000){last:Int}{r:Rule}:
  ∃T' D x y B j,zch L.length T' D x y/\T'.length<=11/\B<=q+3/\j.length=L.length+D.length/\
   Zi N go0 (xs.map rR) (i:Int) f t b a by_ (q:Int) last r (tkL T) fl tl (Rt.map rlV) (L.map lfB)=
    go0 (xs.map rR) ((i+1:Nat):Int) f t b a by_ (B:Int) last (tkL (T++T')) j tl ((Rt++[Rule.mk r.uD r.uC r.uE r.By x y]).map rlV) ((L++D).map lfB):=by
 obtain⟨T',D,x,y,B,j,U,h2,h3,h4,e⟩:=Xe (N:=N) (f:=f) (t:=t) (b:=b) (a:=a) (by_:=by_) (fl:=fl) (tl:=tl) (rp:=Rt.map rlV) (r:=xs[i]) Z hT O hL hq I.d.1 I.e.1;refine⟨T',D,x,y,B,j,U,h2,h3,h4,?_⟩;have J:Rt.map rlV++([.agg [.int .i64 r.uD,.int .u8 r.uC,.int .i64 r.uE,.int .i64 r.By,.int .i64 x,.int .i64 y]]:List AV)=(Rt++[Rule.mk r.uD r.uC r.uE r.By x y]).map rlV:=zhU Rt (Rule.mk r.uD r.uC r.uE r.By x y);unfold Zi;rw[zeG H,za,zkv H,e,ze];dsimp only;rw[J,JH (by rw[mE,kW,mF];omega),za,yu (by omega) (by omega),za];rfl
theorem ztj{go0:GoR}{xs:List R}{i:Nat}(hi:i<xs.length)(hx:InRq xs[i])(Z:i<=1000)(J:1100<N)(hT:T.length<=4800)(hf:fl.length=L.length)(hL:L.length<=4800)(hq:q<=4800)(hR:Rt.length<=5000){n:Nat}(hn:n<=100){last:Int}{r:Rule}:
  ∃T2 D2 T3 D3 w x y H j,ByE true L.length T2 D2 w/\zch (L.length+D2.length) T3 D3 x y/\T2.length<=5/\D2.length<=1/\T3.length<=11/\H<=q+n+3/\j.length=L.length+(D2.length+D3.length)/\
   Zj N go0 (xs.map rR) (i:Int) (n:Int) f t b a by_ (q:Int) last r (tkL T) fl tl (Rt.map rlV) (L.map lfB)=
    go0 (xs.map rR) ((i+1:Nat):Int) f t b a by_ (H:Int) last (tkL (T++(T2++T3))) j tl ((Rt++[Rule.mk r.uD r.uC r.uE w x y]).map rlV) ((L++(D2++D3)).map lfB):=by
 have hb:=hx.c;unfold Zj;rw[yM (s:=[[66,89]]) (by simp) J (by simp;omega),ze];dsimp only;rw[zeG hi,za,ztn hi,show zh xs[i].By=true from decide_eq_true hb.1,decide_eq_true (show(0:Nat)<4 by decide),nM,za];by_cases h4:xs[i].By%4=0
 ·obtain⟨F,hF⟩:=zaQ (N:=N) (s:=[32]) (by simp) J;have B:=Xf (N:=N) (f:=f) (t:=t) (b:=b) (a:=a) (by_:=by_) (at_:=(q:Int)) (fl:=fl) (tl:=tl) (rp:=Rt.map rlV) (l:=[kw [83,80,65,67,69,83]]) (T:=T++[[66,89]].map kw) (F:=F) (L:=L) (by simp;omega) hf (by omega);have B:qN N ([.agg [.int .u8 (kw [83,80,65,67,69,83]).uG,.str (kw [83,80,65,67,69,83]).uH,.int .i64 (kw [83,80,65,67,69,83]).uO,.int .i64 (kw [83,80,65,67,69,83]).uP,.bool (kw [83,80,65,67,69,83]).uQ]]:List AV) F f t b a by_ (q:Int) (tkL (T++[[66,89]].map kw)) fl tl (Rt.map rlV) (L.map lfB)=_:=B;rw[decide_eq_true h4,cond_true,show zX N 1 [83,80,65,67,69,83]=some (kw [83,80,65,67,69,83])from rfl,ze,hF,ze,B,ze];dsimp only;obtain⟨T3,D3,x,y,H,j,U,g2,g3,I,e⟩:=zti (N:=N) (f:=f) (t:=t) (b:=b) (a:=a) (by_:=by_) (fl:=fl++[fdV F]) (tl:=tl) (T:=T++[[66,89]].map kw++[kw [83,80,65,67,69,83]]) (L:=L++[[kw [83,80,65,67,69,83]]]) (Rt:=Rt) (q:=q) (go0:=go0) hi hx Z J (by simp;omega) (by simp[hf]) (by simp;omega) (by omega) hR (last:=last) (r:=⟨r.uD,r.uC,r.uE,(L.length:Int),r.uK,r.uI⟩);rw[kW,mF]at U I;refine⟨[kw [66,89],kw [83,80,65,67,69,83]],[[kw [83,80,65,67,69,83]]],T3,D3,(L.length:Int),x,y,H,j,.inr ⟨rfl,_,.inr rfl,rfl,rfl,rfl⟩,U,by simp,by simp,g2,by omega,by rw[I,mF];omega,?_⟩;rw[e];simp only[mB,nO,uAA,nQ,nJ]
 ·obtain⟨O,F,e0⟩:=yx (N:=N) (f:=f) (t:=t) (b:=b) (a:=a) (by_:=by_) (fl:=fl) (tl:=tl) (rp:=Rt.map rlV) (T:=T++[[66,89]].map kw) (L:=L) J (by simp;omega) hf (by omega) (n:=n) hn (q:=q) (by omega);have hl:=XC (decide ((q+n)%2=0)) O;rw[decide_eq_false h4,cond_false,e0,ze];dsimp only;obtain⟨T3,D3,x,y,H,j,U,g2,g3,I,e⟩:=zti (N:=N) (f:=f) (t:=t) (b:=b) (a:=a) (by_:=by_) (fl:=fl++[fdV F]) (tl:=tl) (T:=T++[[66,89]].map kw++opT (decide ((q+n)%2=0)) O) (L:=L++[opT (decide ((q+n)%2=0)) O]) (Rt:=Rt) (q:=q+n) (go0:=go0) hi hx Z J (by simp;omega) (by simp[hf]) (by simp;omega) (by omega) hR (last:=last) (r:=⟨r.uD,r.uC,r.uE,(L.length:Int),r.uK,r.uI⟩);rw[kW,mF]at U I;refine⟨kw [66,89]::opT (decide ((q+n)%2=0)) O,[opT (decide ((q+n)%2=0)) O],T3,D3,(L.length:Int),x,y,H,j,.inr ⟨rfl,_,.inl ⟨_,_,rfl⟩,rfl,rfl,rfl⟩,U,by rw[mC];omega,by simp,g2,by omega,by rw[I,mF];omega,?_⟩;rw[e];simp only[mB,nO,uAA,nQ,nJ]
theorem zAh{go0:GoR}{xs:List R}{i:Nat}(J:i<xs.length)(Z:InRq xs[i])(O:i<=1000)(hN:1100<N)(hT:T.length<=4700)(hf:fl.length=L.length)(hL:L.length<=4700)(hq:q<=4700)(hR:Rt.length<=5000){last:Int}:
  ∃T' D r I j,RuleE (-1) (zT xs[i] 4) true L.length T' D r/\T'.length<=20/\D.length<=20/\I<=q+10/\j.length=L.length+D.length/\
   yL N go0 (xs.map rR) (i:Int) f t b a by_ (q:Int) last (tkL T) fl tl (Rt.map rlV) (L.map lfB)=
    go0 (xs.map rR) ((i+1:Nat):Int) f t b a by_ (I:Int) (zT xs[i] 4) (tkL (T++(qb (zT xs[i] 4) last xs[i]++T'))) j tl ((Rt++[r]).map rlV) ((L++D).map lfB):=by
 have hw1:(qb (zT xs[i] 4) last xs[i]).length<=1:=by unfold qb;split<;>simp
 have a1:=uAJ xs[i].uE (show(3:Int)≠0 by decide);have a2:=uAO xs[i].uE (show(0:Int)<3 by decide);have hb:=Z.b;unfold yL;rw[decide_eq_true (show(i:Int)<((xs.map rR).length:Int)by rw[mE];omega),cond_true,zeG J,za,zkv J,zlD (x:=xs[i]) (most:=4) hN (by omega) Z.a.1 (by decide) (by decide),ze,zzk J];dsimp only;by_cases U:zT xs[i] 4=1
 ·rw[decide_eq_true U,mP,cond_false];obtain⟨T2,D2,T3,D3,w,x,y,I,j,g1,H,g3,g4,g5,g6,g7,e⟩:=ztj (N:=N) (f:=f) (t:=t) (b:=b) (a:=a) (by_:=by_) (fl:=fl) (tl:=tl) (T:=T++qb (zT xs[i] 4) last xs[i]) (L:=L) (Rt:=Rt) (q:=q) (go0:=go0) J Z O hN (by rw[kW];omega) hf (by omega) (by omega) hR (n:=1) (by omega) (last:=zT xs[i] 4) (r:=⟨-1,zT xs[i] 4,-1,0,0,0⟩);have:=WF H;refine⟨[]++(T2++T3),[]++(D2++D3),⟨-1,zT xs[i] 4,-1,w,x,y⟩,I,j,⟨[],[],T2,D2,T3,D3,.inl ⟨U,rfl,rfl,rfl⟩,g1,H,rfl,rfl,rfl,rfl⟩,by simp only[kW,uAC];omega,by simp only[kW,uAC];omega,by omega,by rw[g7];simp only[kW,uAC];omega,?_⟩;rw[nJ,nJ,<-mB];exact e
 ·obtain⟨n,hn⟩:∃n:Nat,1+xs[i].uE%3=(n:Int):=⟨(1+xs[i].uE%3).toNat,by omega⟩
  obtain⟨B,F,e⟩:=yx (N:=N) (f:=f) (t:=t) (b:=b) (a:=a) (by_:=by_) (fl:=fl) (tl:=tl) (rp:=Rt.map rlV) (T:=T++qb (zT xs[i] 4) last xs[i]) (L:=L) hN (by rw[kW];omega) hf (by omega) (n:=n) (by omega) (q:=q) (by omega);have hl:=XC (decide ((q+n)%2=0)) B;rw[decide_eq_false U,nT,cond_true,za,show zh xs[i].uE=true from decide_eq_true hb.1,decide_eq_true (show(0:Nat)<3 by decide),nM,za,yu (by omega) (by omega),za,hn,yu (by omega) (by omega),za,e,ze];dsimp only;obtain⟨T2,D2,T3,D3,w,x,y,I,j,g1,H,g3,g4,g5,g6,g7,e2⟩:=ztj (N:=N) (f:=f) (t:=t) (b:=b) (a:=a) (by_:=by_) (fl:=fl++[fdV F]) (tl:=tl) (T:=T++qb (zT xs[i] 4) last xs[i]++opT (decide ((q+n)%2=0)) B) (L:=L++[opT (decide ((q+n)%2=0)) B]) (Rt:=Rt) (q:=q+n) (go0:=go0) J Z O hN (by rw[kW,kW];omega) (by rw[kW,kW,hf];rfl) (by rw[kW,mF];omega) (by omega) hR (n:=n) (by omega) (last:=zT xs[i] 4) (r:=⟨-1,zT xs[i] 4,(L.length:Int),0,0,0⟩);have:=WF H;rw[kW,mF]at g1 H g7;refine⟨opT (decide ((q+n)%2=0)) B++(T2++T3),[opT (decide ((q+n)%2=0)) B]++(D2++D3),⟨-1,zT xs[i] 4,(L.length:Int),w,x,y⟩,I,j,⟨opT (decide ((q+n)%2=0)) B,[opT (decide ((q+n)%2=0)) B],T2,D2,T3,D3,.inr ⟨U,⟨_,_,rfl⟩,rfl,rfl⟩,g1,H,rfl,rfl,rfl,rfl⟩,by simp only[kW];omega,by simp only[kW,mF];omega,by omega,by rw[g7];simp only[kW,mF];omega,?_⟩;rw[show T++(qb (zT xs[i] 4) last xs[i]++(opT (decide ((q+n)%2=0)) B++(T2++T3)))=T++qb (zT xs[i] 4) last xs[i]++opT (decide ((q+n)%2=0)) B++(T2++T3)by simp,show L++([opT (decide ((q+n)%2=0)) B]++(D2++D3))=L++[opT (decide ((q+n)%2=0)) B]++(D2++D3)by simp];exact e2
theorem Ki{xs:List R}(H:∀x∈xs,InRq x)(hl:xs.length<=100)(hN:1100<N):∀(k i:Nat)(last:Int)(T:List Token)(L:Lv)(Rt:List Rule)(q:Nat)(fl:List AV),i<=xs.length->xs.length-i<k->
  T.length+25*(xs.length-i)<=4500->L.length+25*(xs.length-i)<=4500->q+10*(xs.length-i)<=4500->Rt.length+(xs.length-i)<=4500->fl.length=L.length->
  ∃T' D B q' y,Em true noC (-1) last L.length T' D B/\T'.length<=25*(xs.length-i)/\D.length<=25*(xs.length-i)/\B.length=xs.length-i/\q'<=q+10*(xs.length-i)/\y.length=L.length+D.length/\
   jY N k (xs.map rR) (i:Int) f t b a by_ (q:Int) last (tkL T) fl tl (Rt.map rlV) (L.map lfB)=some (f,t,b,a,by_,(q':Int),tkL (T++T'),y,tl,(Rt++B).map rlV,(L++D).map lfB)
 |0,_,_,_,_,_,_,_,_,h,_,_,_,_,_=>by omega
 |k+1,i,last,T,L,Rt,q,fl,hi,hk,hT,hL,hq,hR,hf=>by
  show∃T' D B q' y,_/\_/\_/\_/\_/\_/\yL N (jY N k) (xs.map rR) (i:Int) f t b a by_ (q:Int) last (tkL T) fl tl (Rt.map rlV) (L.map lfB)=_;by_cases h:i<xs.length
  ·have hx:=H xs[i] (uAz h);obtain⟨b1,b2⟩:=zi3 (x:=xs[i]) (most:=4) (by decide) (by decide);have hstep:xs.length-i=(xs.length-(i+1))+1:=by omega
   obtain⟨T1,D1,r,q1,U,O,hT1,hD1,hq1,hf2,J⟩:=zAh (N:=N) (f:=f) (t:=t) (b:=b) (a:=a) (by_:=by_) (fl:=fl) (tl:=tl) (T:=T) (L:=L) (Rt:=Rt) (q:=q) (go0:=jY N k) h hx (by omega) hN (by omega) hf (by omega) (by omega) (by omega) (last:=last);have hw1:(qb (zT xs[i] 4) last xs[i]).length<=1:=by unfold qb;split<;>simp
   obtain⟨T2,D2,B,q2,Z,j,hT2,hD2,hrs,hq2,hf3,e3⟩:=Ki H hl hN k (i+1) (zT xs[i] 4) (T++(qb (zT xs[i] 4) last xs[i]++T1)) (L++D1) (Rt++[r]) q1 U (by omega) (by omega) (by simp only[kW];omega) (by simp only[kW];omega) (by omega) (by rw[kW,mF];omega) (by rw[hf2,kW]);rw[kW]at j;refine⟨qb (zT xs[i] 4) last xs[i]++(T1++T2),D1++D2,r::B,q2,Z,?_,by simp only[kW];omega,by simp only[kW];omega,by rw[mC];omega,by omega,by rw[hf3];simp only[kW];omega,?_⟩
   ·unfold qb;by_cases I:zT xs[i] 4=1\/zT xs[i] 4≠last\/128<=xs[i].uC
    ·rw[if_pos I,nQ,nJ];exact Em.how (.inl rfl) b1 b2 (.inl rfl) O j
    ·rw[if_neg I,nJ];have e1:zT xs[i] 4≠1:=fun e=>I (.inl e)
     have J:zT xs[i] 4=last:=Classical.byContradiction fun e=>I (.inr (.inl e))
     rw[J]at e1 b1 O j;exact Em.cont e1 b1 O j
   ·rw[J,e3];simp only[mB,nQ,nJ]
  ·have e0:xs.length-i=0:=by omega
   unfold yL;rw[decide_eq_false (by rw[mE];omega),cond_false,e0];exact⟨[],[],[],q,fl,Em.nil,by simp,by simp,rfl,by omega,by simpa using hf,by rw[mM,mM,mM]⟩
theorem zlA{xs:List R}(H:∀x∈xs,InRq x)(J:xs.length<=100)(I:1100<N){T:List Token}{L:Lv}{q:Nat}{fl:List AV}(hT:T.length<=1900)(hL:L.length<=1900)(hq:q<=1900)(U:fl.length=L.length):
  ∃T' D y B j,Em true noC (-1) 0 L.length T' D y/\T'.length<=25*xs.length/\D.length<=25*xs.length/\y.length=xs.length/\B<=q+10*xs.length/\j.length=L.length+D.length/\
   Xd N (xs.map rR) f t b a by_ (q:Int) (tkL T) fl tl [] (L.map lfB)=some (f,t,b,a,by_,(B:Int),tkL (T++(kw [82,69,80,76,65,67,73,78,71]::T')),j,tl,y.map rlV,(L++D).map lfB):=by
 obtain⟨T',D,y,B,j,O,h2,h3,h4,h5,Z,e⟩:=Ki (N:=N) (f:=f) (t:=t) (b:=b) (a:=a) (by_:=by_) (tl:=tl) H J I N 0 0 (T++[kw [82,69,80,76,65,67,73,78,71]]) L [] q fl (by omega) (by omega) (by simp only[kW,mF];omega) (by omega) (by omega) (by simp;omega) U;refine⟨T',D,y,B,j,O,by omega,by omega,by omega,by omega,Z,?_⟩;unfold Xd;rw[yM (s:=[[82,69,80,76,65,67,73,78,71]]) (by simp) I (by simp;omega),ze];rw[mB]at e;exact e
end Go.Proofs.C06
end
section
set_option maxRecDepth 100000
namespace Go.Proofs.C06
open Go Go.RowKit Go.Vc Go.Am
def Wk(T:List Token):Prop:=∀u∈T,Wd u
theorem ZR:Wk []:=fun u h=>by cases h
theorem ZS{A B:List Token}(y:Wk A)(j:Wk B):Wk (A++B):=fun u h=>(mQ.1 h).elim (y u) (j u)
theorem qy{w:uAS}{T:List Token}(h:zb5 w qQ=true)(y:Wk T):Wk (kw w::T):=fun u j=>by
 rcases mS.1 j with rfl|j
 ·exact fun _=>h
 ·exact y u j
theorem zjY{l:List Token}(h:Xj l):Wk l:=by
 obtain⟨e,s,rfl⟩:=h;cases e with
 |true=>
  intro u j hk;rcases mS.1 j with rfl|j
  ·exact absurd (show(3:Int)=1 from hk) (by decide)
  ·cases j
 |false=>
  have y:∀(k:Int)(s:uAS)(T:List Token),k≠1->Wk T->Wk (tok k s::T):=fun k s T hk B u j=>by
   rcases mS.1 j with rfl|j
   ·exact fun e=>absurd e hk
   ·exact B u j
  exact qy (by rfl) (y 5 _ _ (by decide) (y 2 _ _ (by decide) (y 5 _ _ (by decide) ZR)))
theorem znU{w:List Token}{k:Nat}{T:List Token}{D:Lv}{x:Int}(j:Wk w)(h:zlN w k T D x):Wk T:=by
 rcases h with⟨rfl,_,_⟩|⟨o,ho,rfl,_,_⟩
 ·exact ZR
 ·exact ZS j (zjY ho)
theorem znT{k:Nat}{T:List Token}{D:Lv}{x y:Int}(h:zch k T D x y):Wk T:=by obtain⟨T1,D1,T2,D2,B,j,rfl,rfl⟩:=h;exact ZS (znU (qy (by rfl) (qy (by rfl) ZR)) B) (znU (qy (by rfl) ZR) j)
theorem zhq{count how:Int}{by_:Bool}{k:Nat}{T:List Token}{D:Lv}{r:Rule}(h:RuleE count how by_ k T D r):Wk T:=by
 obtain⟨T1,D1,T2,D2,T3,D3,B,y,j,rfl,_,_,_⟩:=h;refine ZS ?_ (ZS ?_ (znT j))
 ·rcases B with⟨_,rfl,_,_⟩|⟨_,ho,_,_⟩
  ·exact ZR
  ·exact zjY ho
 ·rcases y with⟨_,rfl,_,_⟩|⟨_,o,ho,rfl,_,_⟩
  ·exact ZR
  ·refine qy (by rfl) ?_;rcases ho with ho|rfl
   ·exact zjY ho
   ·exact qy (by rfl) ZR
theorem zqR{h:Int}(j:1<=h)(y:h<=4):zb5 (atS howWs (h-1)) qQ=true:=
 KK (P:=fun w=>zb5 w qQ=true) j y (by rfl) (by rfl) (by rfl) (by rfl)
theorem zAY{by_:Bool}{c:Bool->Int}{count last:Int}{k:Nat}{T:List Token}{D:Lv}{H:List Rule}(h:Em by_ c count last k T D H):Wk T:=by
 induction h with
 |nil=>exact ZR
 |cont _ _ j _ ih=>exact ZS (zhq j) ih
 |how _ y B _ j _ ih=>exact qy (zqR y B) (ZS (zhq j) ih)
 | @cnt _ _ _ h z g _ _ _ _ _ _ _ _ _ _ y I j _ ih=>exact qy (by cases g<;>rfl) (qy (by rfl) (qy (zqR y (by omega)) (ZS (zhq j) ih)))
def tog:List Token:=[kw [84],kw [79,70],kw [71]]
theorem zym{w:uAS}{R:List Token}(h:w∉([[79,70],[73,78]]:List uAS)):opd (kw [84]::kw [79,70]::kw [71]::kw w::R)=(3,0):=by
 have H:nmT (kw [84]::kw [79,70]::kw [71]::kw w::R) 0=true:=by show(decide ((1:Int)=1)&&decide (jy [84] jd=0))=true;rw[show jy [84] jd=0 by rfl];rfl
 unfold opd;rw[if_pos H];refine Prod.ext ?_ rfl;show opG (kw [84]::kw [79,70]::kw [71]::kw w::R) (ofN (kw [84]::kw [79,70]::kw [71]::kw w::R) (R.length+3+1) 1)=3;have j:isT (kw [84]::kw [79,70]::kw [71]::kw w::R) 1 1 [[79,70],[73,78]]=true:=rfl;have B:nmT (kw [84]::kw [79,70]::kw [71]::kw w::R) (1+1)=true:=by show(decide ((1:Int)=1)&&decide (jy [71] jd=0))=true;rw[show jy [71] jd=0 by rfl];rfl
 have y:isT (kw [84]::kw [79,70]::kw [71]::kw w::R) (1+2) 1 [[79,70],[73,78]]=false:=by show(decide ((1:Int)=1)&&decide (w∈([[79,70],[73,78]]:List uAS)))=false;rw[decide_eq_false h];rfl
 have ho:ofN (kw [84]::kw [79,70]::kw [71]::kw w::R) (R.length+3+1) 1=3:=by rw[ofN,j,B,nM,if_pos rfl,ofN,y,uAq,if_neg (by simp)]
 have I:grp (kw [84]::kw [79,70]::kw [71]::kw w::R) 3=(0,false):=zfj rfl;rw[ho];unfold opG;rw[I];rfl
def StC(ts:List Token)(f t b a:Int)(R1 R2:List Rule)(L:Lv):Prop:=∃j o2 T3 D3,Xj j/\(Xj o2\/o2=[kw [90,69,82,79]])/\zch 3 T3 D3 b a/\ts=tog++(kw [67,79,78,86,69,82,84,73,78,71]::(j++(kw [84,79]::(o2++T3))))/\f=1/\t=2/\R1=[]/\R2=[]/\L=[tog]++[j]++[o2]++D3
def zu6(w:uAS)(by_:Bool)(k:Nat)(T:List Token)(D:Lv)(j:List Rule):Prop:=(T=[]/\D=[]/\j=[])\/∃T',T=kw w::T'/\Em by_ noC (-1) 0 k T' D j/\j≠[]
def StP(ts:List Token)(f t b a:Int)(R1 R2:List Rule)(L:Lv):Prop:=∃T1 D1 T2 D2,zu6 [84,65,76,76,89,73,78,71] false 1 T1 D1 R1/\zu6 [82,69,80,76,65,67,73,78,71] true (1+D1.length) T2 D2 R2/\(R1≠[]\/R2≠[])/\ts=tog++(T1++T2)/\f= -1/\t= -1/\b= -1/\a= -1/\L=[tog]++D1++D2
theorem zqQ{T:List Token}(h:Wk T):Wk (tog++T):=qy (by rfl) (qy (by rfl) (qy (by rfl) h))
theorem zBC{ts:List Token}{f t b a:Int}{R1 R2:List Rule}{L:Lv}(h:StC ts f t b a R1 R2 L):Wk ts:=by
 obtain⟨H,o2,T3,D3,B,j,y,rfl,_⟩:=h;refine zqQ (qy (by rfl) (ZS (zjY B) (qy (by rfl) (ZS ?_ (znT y)))));rcases j with j|rfl
 ·exact zjY j
 ·exact qy (by rfl) ZR
theorem znS{w:uAS}{by_:Bool}{k:Nat}{T:List Token}{D:Lv}{B:List Rule}(y:zb5 w qQ=true)(h:zu6 w by_ k T D B):Wk T:=by
 rcases h with⟨rfl,_⟩|⟨T',rfl,j,_⟩
 ·exact ZR
 ·exact qy y (zAY j)
theorem zBB{ts:List Token}{f t b a:Int}{R1 R2:List Rule}{L:Lv}(h:StP ts f t b a R1 R2 L):Wk ts:=by obtain⟨T1,D1,T2,D2,y,j,_,rfl,_⟩:=h;exact zqQ (ZS (znS (by rfl) y) (znS (by rfl) j))
end Go.Proofs.C06
end
section
set_option maxRecDepth 100000
namespace Go.Proofs.C06
open Go Go.RowKit Go.Vc Go.Am
def zu5(S:List Token):Prop:=S=[]\/S=[kw [84,79]]
theorem zj6{S:List Token}(h:zu5 S):End S:=by
 rcases h with rfl|rfl
 ·exact zyJ
 ·exact zuH (by decide) (by decide) (by decide) (by decide)
theorem zq0{S:List Token}(h:zu5 S):hdW [82,69,80,76,65,67,73,78,71] S=false:=by rcases h with rfl|rfl<;>rfl
theorem zvd{w:uAS}{R:List Token}(h:w∉([[79,70],[73,78]]:List uAS)):opd (tog++(kw w::R))=(3,0)/\opP (tog++(kw w::R)) 0=3/\opL (tog++(kw w::R)) 0=tog:=by
 have ho:opd (tog++(kw w::R))=(3,0):=zym h;refine⟨ho,?_,?_⟩
 ·unfold opP;rw[uAe,ho];rfl
 ·unfold opL;rw[uAe,ho];rfl
theorem zAq:nmT tog 0=true:=by show(decide ((1:Int)=1)&&decide (jy [84] jd=0))=true;rw[show jy [84] jd=0 by rfl];rfl
theorem XA{w:uAS}{R:List Token}(h:w∉([[79,70],[73,78]]:List uAS)):qF (tog++(kw w::R))=
  (if hdW [67,79,78,86,69,82,84,73,78,71] (kw w::R)then
   Yb (tog++(kw w::R)) (Yj (tog++(kw w::R)) 4 [tog]).1 (Yj (tog++(kw w::R)) 4 [tog]).2.1 (Yj (tog++(kw w::R)) 4 [tog]).2.2.1 (Yj (tog++(kw w::R)) 4 [tog]).2.2.2.1 (Yj (tog++(kw w::R)) 4 [tog]).2.2.2.2.1 [] []
    (Yj (tog++(kw w::R)) 4 [tog]).2.2.2.2.2.1 (Yj (tog++(kw w::R)) 4 [tog]).2.2.2.2.2.2
  else if hdW [84,65,76,76,89,73,78,71] (kw w::R)then zb2 (tog++(kw w::R)) true (JB (tog++(kw w::R)) ((tog++(kw w::R)).length+1) true [] 4 [tog])
  else zb2 (tog++(kw w::R)) false (true,[],3,[tog])):=by
 obtain⟨H,y,B⟩:=zvd (R:=R) h;have j:(tog++(kw w::R)).drop 3=kw w::R:=rfl;unfold qF;rw[B,H,if_pos ⟨rfl,zAq⟩,y,j]
theorem ztT{ts o R:List Token}{p:Nat}{L:Lv}(ho:Xj o\/o=[kw [90,69,82,79]])(y:Sep R)(j:ts.drop p=o++R):nextM ts p L=((L.length:Int),true,p+o.length,L++[o]):=by
 rcases ho with ho|rfl
 ·exact XE ho y j
 ·unfold nextM;have j:ts.drop p=kw [90,69,82,79]::R:=j;rw[j,zoY (by rfl),if_pos rfl];rfl
theorem zAj{ts S:List Token}{f t b a:Int}{R1 R2:List Rule}{L:Lv}(h:StC ts f t b a R1 R2 L)(hS:zu5 S):qF (ts++S)=Yb (ts++S) true f t b a (R1.map rlV) (R2.map rlV) ts.length L:=by
 obtain⟨j,o2,T3,D3,Z,h2,J,rfl,rfl,rfl,rfl,rfl,rfl⟩:=h;have O:=zj6 hS;have e:tog++(kw [67,79,78,86,69,82,84,73,78,71]::(j++(kw [84,79]::(o2++T3))))++S=tog++(kw [67,79,78,86,69,82,84,73,78,71]::(j++(kw [84,79]::(o2++(T3++S))))):=by simp only[mB,nQ]
 have y:(tog++(kw [67,79,78,86,69,82,84,73,78,71]::(j++(kw [84,79]::(o2++T3))))).length=4+j.length+1+o2.length+T3.length:=by simp only[kW,mC];rw[show tog.length=3 from rfl];omega
 rw[y,e,XA (by decide),if_pos (by rfl)];generalize hus:tog++(kw [67,79,78,86,69,82,84,73,78,71]::(j++(kw [84,79]::(o2++(T3++S)))))=us;have U:us.drop 4=j++(kw [84,79]::(o2++(T3++S))):=by rw[<-hus];rfl
 have n1:=XE (L:=[tog]) Z (zhN (by decide)) U;have B:us.drop (4+j.length)=kw [84,79]::(o2++(T3++S)):=jB U;have H:=jm B;have n2:=ztT (L:=[tog]++[j]) h2 (zeq O.n.s J) H;have I:=jB H;have n3:=zgM (L:=[tog]++[j]++[o2]) O.n (by exact J) I;unfold Yj;rw[n1];dsimp only;rw[if_pos rfl,if_pos (by rw[B];rfl),n2];dsimp only;rw[if_pos rfl,n3];rfl
theorem zAi{ts S:List Token}{f t b a:Int}{R1 R2:List Rule}{L:Lv}(h:StP ts f t b a R1 R2 L)(hS:zu5 S):qF (ts++S)=Yb (ts++S) true f t b a (R1.map rlV) (R2.map rlV) ts.length L:=by
 obtain⟨T1,D1,T2,D2,h1,h2,h3,rfl,rfl,rfl,rfl,rfl,rfl⟩:=h;have hE:=zj6 hS;have rep:∀(j:List Token)(p:Nat)(L:Lv)(T2':List Token)(B:Bool),j.drop p=kw [82,69,80,76,65,67,73,78,71]::(T2'++S)->Em true noC (-1) 0 L.length T2' D2 R2->R2≠[]->R2.length<j.length->
   zb2 j B (true,R1,p,L)=Yb j true (-1) (-1) (-1) (-1) (R1.map rlV) (R2.map rlV) (p+(T2'.length+1)) (L++D2):=by
  intro j p L T2' B H he hr O;have hd1:=jm H;obtain⟨g1,g2⟩:=ztd hE he hr hd1 O;unfold zb2;dsimp only;rw[if_pos rfl,if_pos (by rw[H];rfl),if_neg g1,show p+2=p+1+1 from rfl,g2];dsimp only;rw[show p+1+T2'.length=p+(T2'.length+1)by omega]
 rcases h1 with⟨rfl,rfl,rfl⟩|⟨T1',rfl,J,U⟩
 ·rcases h2 with⟨_,_,rfl⟩|⟨T2',rfl,y,I⟩
  ·simp at h3
  ·have e:tog++([]++kw [82,69,80,76,65,67,73,78,71]::T2')++S=tog++(kw [82,69,80,76,65,67,73,78,71]::(T2'++S)):=by simp only[mB,nQ,nJ]
   have:=znm y;rw[e,XA (by decide),if_neg (by simp[hdW,kw,tok]),if_neg (by simp[hdW,kw,tok]),rep _ 3 [tog] T2' false rfl y I (by simp only[kW,mC];omega)];rw[mM];simp only[kW,mC,nJ];rfl
 ·have hl1:=znm J;rcases h2 with⟨rfl,rfl,rfl⟩|⟨T2',rfl,y,I⟩
  ·have e:tog++(kw [84,65,76,76,89,73,78,71]::T1'++[])++S=tog++(kw [84,65,76,76,89,73,78,71]::(T1'++S)):=by simp only[mB,nQ,mM]
   rw[e,XA (by decide),if_neg (by simp[hdW,kw,tok]),if_pos (by rfl)];generalize hus:tog++(kw [84,65,76,76,89,73,78,71]::(T1'++S))=j;have H:j.drop 4=T1'++S:=by rw[<-hus];rfl
   have O:R1.length<j.length:=by rw[<-hus];simp only[kW,mC];omega
   rw[zj5 hE (L:=[tog]) J U H O];unfold zb2;dsimp only;rw[if_pos rfl,jB H,if_neg (by rw[zq0 hS];simp)];simp only[kW,mC,mM];rw[show tog.length=3 from rfl,show 4+T1'.length=3+(T1'.length+1)by omega];rfl
  ·have Z:End (kw [82,69,80,76,65,67,73,78,71]::(T2'++S)):=zuH (by decide) (by decide) (by decide) (by decide);have e:tog++(kw [84,65,76,76,89,73,78,71]::T1'++kw [82,69,80,76,65,67,73,78,71]::T2')++S=tog++(kw [84,65,76,76,89,73,78,71]::(T1'++(kw [82,69,80,76,65,67,73,78,71]::(T2'++S)))):=by simp only[mB,nQ]
   have hl2:=znm y;rw[e,XA (by decide),if_neg (by simp[hdW,kw,tok]),if_pos (by rfl)];generalize hus:tog++(kw [84,65,76,76,89,73,78,71]::(T1'++(kw [82,69,80,76,65,67,73,78,71]::(T2'++S))))=j;have H:j.drop 4=T1'++(kw [82,69,80,76,65,67,73,78,71]::(T2'++S)):=by rw[<-hus];rfl
   have O:R1.length<j.length/\R2.length<j.length:=by rw[<-hus];simp only[kW,mC];omega
   rw[zj5 Z (L:=[tog]) J U H O.1,rep j (4+T1'.length) ([tog]++D1) T2' true (jB H) (by rw[kW];exact y) I O.2];simp only[kW,mC];rw[show tog.length=3 from rfl,show 4+T1'.length+(T2'.length+1)=3+(T1'.length+1+(T2'.length+1))by omega]
def St(ts:List Token)(f t b a:Int)(R1 R2:List Rule)(L:Lv):Prop:=StC ts f t b a R1 R2 L\/StP ts f t b a R1 R2 L
theorem zA6{ts:List Token}{f t b a:Int}{R1 R2:List Rule}{L:Lv}(h:St ts f t b a R1 R2 L):Wk ts:=h.elim zBC zBB
theorem zzK{ts:List Token}{f t b a:Int}{R1 R2:List Rule}{L:Lv}(h:St ts f t b a R1 R2 L):1<=ts.length:=by rcases h with⟨_,_,_,_,_,_,_,rfl,_⟩|⟨_,_,_,_,_,_,_,rfl,_⟩<;>(rw[kW,show tog.length=3 from rfl];omega)
theorem zvi{ts:List Token}{f t b a:Int}{R1 R2:List Rule}{L:Lv}(h:St ts f t b a R1 R2 L):
  qF ts=(R1.map rlV,R2.map rlV,f,t,b,a,L.map lfR,0)/\(qF (ts++[kw [84,79]])).2.2.2.2.2.2.2=4:=by
 have y:∀S,zu5 S->qF (ts++S)=Yb (ts++S) true f t b a (R1.map rlV) (R2.map rlV) ts.length L:=fun S j=>h.elim (fun h=>zAj h j) (fun h=>zAi h j)
 constructor
 ·have:=y [] (.inl rfl);rw[mM]at this;rw[this];unfold Yb;rw[if_pos ⟨rfl,by omega⟩]
 ·rw[y _ (.inr rfl)];unfold Yb;rw[if_neg (fun e=>e.2 (by rw[kW,mF];omega))];rfl
def Lf(D:Lv):Prop:=∀l∈D,l.length<=4
theorem zaL:Lf []:=fun l h=>by cases h
theorem Zq{A B:Lv}(y:Lf A)(j:Lf B):Lf (A++B):=fun l h=>(mQ.1 h).elim (y l) (j l)
theorem KF{o:List Token}(h:o.length<=4):Lf [o]:=fun l j=>by rw[mD]at j;subst j;exact h
theorem zpd{w:List Token}{k:Nat}{T:List Token}{D:Lv}{x:Int}(h:zlN w k T D x):Lf D:=by
 rcases h with⟨_,rfl,_⟩|⟨o,ho,_,rfl,_⟩
 ·exact zaL
 ·exact KF (QA ho)
theorem zpc{k:Nat}{T:List Token}{D:Lv}{x y:Int}(h:zch k T D x y):Lf D:=by obtain⟨T1,D1,T2,D2,B,j,_,rfl⟩:=h;exact Zq (zpd B) (zpd j)
theorem ziQ{count how:Int}{by_:Bool}{k:Nat}{T:List Token}{D:Lv}{r:Rule}(h:RuleE count how by_ k T D r):Lf D:=by
 obtain⟨T1,D1,T2,D2,T3,D3,B,y,j,_,rfl,_,_⟩:=h;refine Zq ?_ (Zq ?_ (zpc j))
 ·rcases B with⟨_,_,rfl,_⟩|⟨_,ho,rfl,_⟩
  ·exact zaL
  ·exact KF (QA ho)
 ·rcases y with⟨_,_,rfl,_⟩|⟨_,o,ho,_,rfl,_⟩
  ·exact zaL
  ·refine KF ?_;rcases ho with ho|rfl
   ·exact QA ho
   ·simp
theorem zBf{by_:Bool}{c:Bool->Int}{count last:Int}{k:Nat}{T:List Token}{D:Lv}{B:List Rule}(h:Em by_ c count last k T D B):Lf D:=by
 induction h with
 |nil=>exact zaL
 |cont _ _ j _ ih=>exact Zq (ziQ j) ih
 |how _ _ _ _ j _ ih=>exact Zq (ziQ j) ih
 |cnt _ y _ _ j _ ih=>
  refine Zq ?_ (Zq (ziQ j) ih);rcases y with⟨_,_,rfl⟩|⟨_,_,rfl⟩
  ·exact zaL
  ·exact KF (by simp)
theorem zpb{w:uAS}{by_:Bool}{k:Nat}{T:List Token}{D:Lv}{y:List Rule}(h:zu6 w by_ k T D y):Lf D:=by
 rcases h with⟨_,rfl,_⟩|⟨T',_,j,_⟩
 ·exact zaL
 ·exact zBf j
theorem zvj{ts:List Token}{f t b a:Int}{R1 R2:List Rule}{L:Lv}(h:St ts f t b a R1 R2 L):Lf L:=by
 have B:Lf [tog]:=KF (by decide);rcases h with⟨I,o2,T3,D3,y,j,H,_,_,_,_,_,rfl⟩|⟨T1,D1,T2,D2,y,j,_,_,_,_,_,_,rfl⟩
 ·refine Zq (Zq (Zq B (KF (QA y))) (KF ?_)) (zpc H);rcases j with j|rfl
  ·exact QA j
  ·simp
 ·exact Zq (Zq B (zpb y)) (zpb j)
end Go.Proofs.C06
end
section
set_option maxRecDepth 100000
namespace Go.Proofs.C06
open Go Go.RowKit Go.Vc Go.Am
theorem zyC{m n:Nat}(j:m<=100)(h:n<=5000):growOk m n=true:=by unfold growOk;have:=Nat.mul_le_mul h j;simp only[kY,uAB];omega
theorem zbD{N n:Nat}(y:n<=100){b:uAS}:∀(k i:Nat)(acc:uAS),i<=n->i<=b.length->n-i<k->acc.length<=i->∃r,ZL N k b (n:Int) (i:Int) acc=some r/\r.length<=n
 |0,_,_,_,_,h,_=>by omega
 |k+1,i,acc,h1,h2,hk,ha=>by
  show∃r,QH N (ZL N k) b (n:Int) (i:Int) acc=some r/\_;unfold QH;by_cases I:i<b.length
  ·rw[decide_eq_true (show(i:Int)<(b.length:Int)by omega),cond_true];by_cases j:i<n
   ·have H:byteAt b (i:Int)=((b[i]).toNat:Int):=by unfold byteAt;rw[nA,mG,kZ I];rfl
    have B:IntKind.wrap .u8 (65+((b[i]).toNat:Int)%3)=65+((b[i]).toNat:Int)%3:=znR (by omega) (by omega);rw[decide_eq_true (show(i:Int)<(n:Int)by omega),cond_true,zB.2 ⟨by omega,by omega⟩,za,H,show zh ((b[i]).toNat:Int)=true from decide_eq_true (by omega),B,
     show zn .u8 (65+((b[i]).toNat:Int)%3)=true from ql.2 ⟨by show(0:Int)<=_;omega,by show _<=(255:Int);omega⟩]
    show∃r,chk (growOk 1 (acc++_).length) (chk (zn .i64 ((i:Int)+1)) (ZL N k b (n:Int) ((i+1:Nat):Int) (acc++_)))=some r/\_;rw[zyC (by omega) (by rw[kW,mE];simp only[mC,uAC];omega),za,yu (by omega) (by omega),za];exact zbD y k (i+1) _ (by omega) (by omega) (by omega) (by rw[kW,mE];simp only[mC,uAC];omega)
   ·rw[decide_eq_false (by omega),cond_false];exact⟨acc,rfl,by omega⟩
  ·rw[decide_eq_false (by omega),cond_false];exact⟨acc,rfl,by omega⟩
theorem zp8{N n:Nat}(y:1000<N)(j:n<=100)(b:uAS):∃r,ziU N b (n:Int)=some r/\r.length<=n:=zbD j N 0 [] (by omega) (by omega) (by omega) (by simp)
end Go.Proofs.C06
end
section
set_option maxRecDepth 100000
namespace Go.Proofs.C06
open Go Go.RowKit Go.Vc Go.Am
variable {N : Nat} {x : S} {by_ : uAS} {F0 : Field}
abbrev STy:=Int×Int×Int×Int×uAS×Int×List AV×List AV×List AV×List AV×List AV
def zbm(by_:uAS)(r:Option STy):Prop:=∃ts f t b a R1 R2 L q fl,St ts f t b a R1 R2 L/\ts.length<=500/\L.length<=500/\R1.length<=5/\R2.length<=5/\r=some (f,t,b,a,by_,q,tkL ts,fl,R1.map rlV,R2.map rlV,L.map lfB)
theorem zzi{Bs:List R}(hB:∀y∈Bs,InRq y)(h1:1<=Bs.length)(hN:1100<N){j o2:List Token}(B:Xj j)(H:Xj o2\/o2=[kw [90,69,82,79]]){fl:List AV}(hf:fl.length=3){q:Nat}(hq:q<=100){b a:Int}:
  zbm by_ (qc N 1 2 b a by_ (q:Int) (Bs.map rR) (tkL (tog++(kw [67,79,78,86,69,82,84,73,78,71]::(j++(kw [84,79]::o2))))) fl [] [] (([tog]++[j]++[o2]).map lfB)):=by
 have I:0<Bs.length:=h1;have U:=hB Bs[0] (uAz I);have l1:=QA B;have l2:o2.length<=4:=by
  rcases H with h|rfl
  ·exact QA h
  ·simp
 have O:(tog++(kw [67,79,78,86,69,82,84,73,78,71]::(j++(kw [84,79]::o2)))).length<=20:=by simp only[kW,mC];rw[show tog.length=3 from rfl];omega
 obtain⟨T3,D3,u,v,q',J,Z,g2,g3,g4,e⟩:=Xe (N:=N) (f:=1) (t:=2) (b:=b) (a:=a) (by_:=by_) (fl:=fl) (tl:=[]) (rp:=[]) (r:=Bs[0]) (T:=tog++(kw [67,79,78,86,69,82,84,73,78,71]::(j++(kw [84,79]::o2)))) (L:=[tog]++[j]++[o2]) hN (by omega) hf (by simp) (q:=q) (by omega) U.d.1 U.e.1;have hd:=WF Z;have a0:zw 0 (Bs.map rR).length=true:=zkw I;have a1:=zeG I;have a2:=zkv I;unfold qc;rw[show((0:Int))=((0:Nat):Int)from rfl]at a0;rw[show((0:Int))=((0:Nat):Int)from rfl,a1,a0,za,za,a2,e,ze];refine⟨tog++(kw [67,79,78,86,69,82,84,73,78,71]::(j++(kw [84,79]::(o2++T3)))),1,2,u,v,[],[],[tog]++[j]++[o2]++D3,(q':Int),J,.inl ⟨j,o2,T3,D3,B,H,Z,rfl,rfl,rfl,rfl,rfl,rfl⟩,?_,?_,by simp,by simp,?_⟩
 ·simp only[kW,mC];rw[show tog.length=3 from rfl];omega
 ·simp only[kW,mC,uAC];omega
 ·dsimp only;simp only[mB,nQ,uAA]
theorem zwM{As Bs:List R}(O:∀y∈Bs,InRq y)(Z:1<=Bs.length)(h5:Bs.length<=5)(H:1100<N)(hF:0<=x.uB)(h3:x.uB%4=3):
  zbm by_ (yH N x (-1) (-1) (-1) (-1) by_ 0 (As.map rR) (Bs.map rR) (tkL tog) [fdV F0] [] [] ([tog].map lfB)):=by
 have J:0<Bs.length:=Z;have hx:=O Bs[0] (uAz J);have U:=hx.c;have a0:zw 0 (Bs.map rR).length=true:=zkw J;have a3:(zw 0 (Bs.map rR).length&&(jS (atV (Bs.map rR) 0) 5&&zd .u8 (zb (atV (Bs.map rR) 0) 2)))=true:=by rw[a0,show atV (Bs.map rR) 0=rR Bs[0]from zeH J];rfl
 have a4:Am.zp (zb (atV (Bs.map rR) 0) 2)=Bs[0].By:=ztn J;obtain⟨n,hn⟩:∃n:Nat,(1:Int)+((Bs.map rR).length:Int)=(n:Int)/\n<=10:=⟨1+Bs.length,by rw[mE];omega,by omega⟩
 obtain⟨s1,F1,e1⟩:=yx (N:=N) (f:= -1) (t:= -1) (b:= -1) (a:= -1) (by_:=by_) (fl:=[fdV F0]) (tl:=[]) (rp:=[]) (T:=tog++[[67,79,78,86,69,82,84,73,78,71]].map kw) (L:=[tog]) H (by simp[tog]) rfl (by simp) (n:=n) (by omega) (q:=0) (by omega);have k1:=yM (N:=N) (f:= -1) (t:= -1) (b:= -1) (a:= -1) (by_:=by_) (at_:=((0:Nat):Int)) (fl:=[fdV F0]) (tl:=[]) (rp:=[]) (lv:=[tog].map lfB) (s:=[[67,79,78,86,69,82,84,73,78,71]]) (T:=tog) (by simp) H (by simp[tog]);obtain⟨j,B,I⟩:∃j,Xj j/\j=opT (decide ((0+n)%2=0)) s1:=⟨_,⟨_,_,rfl⟩,rfl⟩
 have l1:=QA B;rw[<-I]at e1;have k2:=yM (N:=N) (f:=1) (t:= -1) (b:= -1) (a:= -1) (by_:=by_) (at_:=((0+n:Nat):Int)) (fl:=[fdV F0]++[fdV F1]) (tl:=[]) (rp:=[]) (lv:=([tog]++[j]).map lfB) (s:=[[84,79]]) (T:=tog++[[67,79,78,86,69,82,84,73,78,71]].map kw++j) (by simp) H (by simp[tog];omega);unfold yH;rw[show zh x.uB=true from decide_eq_true hF,decide_eq_true (show(0:Nat)<4 by decide),nM,za,decide_eq_true h3,cond_true];rw[show((0:Int))=((0:Nat):Int)from rfl]at a0 a3 a4;rw[show((0:Int))=((0:Nat):Int)from rfl,k1,ze];dsimp only;rw[hn.1,yu (by omega) (by omega),za,e1,ze];dsimp only;rw[show(([tog].length:Nat):Int)=1 from rfl,k2,ze];dsimp only;rw[a3,a0,a4,za,za,show zh Bs[0].By=true from decide_eq_true U.1,decide_eq_true (show(0:Nat)<2 by decide),nM,za];have et:∀o2:List Token,tog++[[67,79,78,86,69,82,84,73,78,71]].map kw++j++[[84,79]].map kw++o2=tog++(kw [67,79,78,86,69,82,84,73,78,71]::(j++(kw [84,79]::o2))):=fun o2=>by simp only[mB,nO,uAA,nQ,nJ]
 by_cases h2:Bs[0].By%2=0
 ·rw[show Bs[0].By%2=((0:Nat):Int)from h2,decide_eq_true rfl,cond_true,show zX N 1 [90,69,82,79]=some (kw [90,69,82,79])from rfl,ze];have hb:=Xf (N:=N) (f:=1) (t:= -1) (b:= -1) (a:= -1) (by_:=by_) (at_:=((0+n:Nat):Int)) (fl:=[fdV F0]++[fdV F1]) (tl:=[]) (rp:=[]) (l:=[kw [90,69,82,79]]) (T:=tog++[[67,79,78,86,69,82,84,73,78,71]].map kw++j++[[84,79]].map kw) (F:=Field.mk 4 0 [57] 1 0 false false false false false 1 ([48].map toByte)) (L:=[tog]++[j]) (by simp[tog];omega) rfl (by simp);rw[et]at hb;exact (congrArg (fun z=>zbm by_ (bnd z _)) hb).mpr (zzi O Z H B (.inr rfl) rfl (by omega))
 ·obtain⟨s2,F2,e2⟩:=yx (N:=N) (f:=1) (t:= -1) (b:= -1) (a:= -1) (by_:=by_) (fl:=[fdV F0]++[fdV F1]) (tl:=[]) (rp:=[]) (T:=tog++[[67,79,78,86,69,82,84,73,78,71]].map kw++j++[[84,79]].map kw) (L:=[tog]++[j]) H (by simp[tog];omega) rfl (by simp) (n:=n) (by omega) (q:=0+n) (by omega);rw[et]at e2;rw[decide_eq_false (show¬Bs[0].By%2=((0:Nat):Int)from h2),cond_false,e2,ze];exact zzi O Z H B (.inl ⟨_,_,rfl⟩) rfl (by omega)
theorem zzh{Bs:List R}(hB:∀y∈Bs,InRq y)(h1:1<=Bs.length)(h5:Bs.length<=5)(hN:1100<N)(hF:0<=x.uB){T1:List Token}{D1:Lv}{R1:List Rule}(hp:zu6 [84,65,76,76,89,73,78,71] false 1 T1 D1 R1)(hT:T1.length<=110)(hD:D1.length<=110)(Z:R1.length<=5)(h0:R1≠[]\/0<x.uB%4)
  {q:Nat} (hq:q<=100) {fl:List AV} (hf:fl.length=1+D1.length):
  zbm by_ (qW N x (-1) (-1) (-1) (-1) by_ (q:Int) (Bs.map rR) (tkL (tog++T1)) fl (R1.map rlV) [] (([tog]++D1).map lfB)):=by
 have ht:(tog++T1).length=3+T1.length:=by rw[kW];rfl
 have J:([tog]++D1).length=1+D1.length:=by rw[kW];rfl
 unfold qW;rw[show zh x.uB=true from decide_eq_true hF,decide_eq_true (show(0:Nat)<4 by decide),nM,za];by_cases I:0<x.uB%4
 ·obtain⟨T2,D2,rs,q',B,U,g2,g3,O,g5,g6,e⟩:=zlA (N:=N) (f:= -1) (t:= -1) (b:= -1) (a:= -1) (by_:=by_) (tl:=R1.map rlV) hB (by omega) hN (T:=tog++T1) (L:=[tog]++D1) (q:=q) (fl:=fl) (by omega) (by omega) (by omega) (by omega);rw[decide_eq_true I,cond_true,e,ze];have j:rs≠[]:=fun e=>by rw[e]at O;simp at O;omega
  rw[J]at U;refine⟨tog++(T1++(kw [82,69,80,76,65,67,73,78,71]::T2)),-1,-1,-1,-1,R1,rs,[tog]++D1++D2,(q':Int),B,.inr ⟨T1,D1,_,D2,hp,.inr ⟨T2,rfl,U,j⟩,.inr j,rfl,rfl,rfl,rfl,rfl,rfl⟩,?_,?_,Z,by omega,?_⟩
  ·simp only[kW,mC];rw[show tog.length=3 from rfl];omega
  ·rw[kW,J];omega
  ·rw[<-mB tog T1]
 ·have H:=h0.resolve_right I;rw[decide_eq_false I,cond_false];refine⟨tog++(T1++[]),-1,-1,-1,-1,R1,[],[tog]++D1++[],(q:Int),fl,.inr ⟨T1,D1,[],[],hp,.inl ⟨rfl,rfl,rfl⟩,.inl H,rfl,rfl,rfl,rfl,rfl,rfl⟩,?_,?_,Z,by simp,?_⟩
  ·rw[mM,ht];omega
  ·rw[mM,J];omega
  ·rw[mM,mM];rfl
theorem zn6{As Bs:List R}(hA:∀y∈As,InRq y)(hA1:1<=As.length)(hA5:As.length<=5)(I:∀y∈Bs,InRq y)(J:1<=Bs.length)(O:Bs.length<=5)(H:1100<N)(B:0<=x.uB)(U:∃Fd,fOf N (F.mk x.vJ 0 x.vK x.vO x.vP)=some Fd){F0:Field}:
  zbm by_ (yH N x (-1) (-1) (-1) (-1) by_ 0 (As.map rR) (Bs.map rR) (tkL tog) [fdV F0] [] [] ([tog].map lfB)):=by
 by_cases h3:x.uB%4=3
 ·exact zwM I J O H B h3
 ·have m1:=uAJ x.uB (show(4:Int)≠0 by decide);obtain⟨Fd,U⟩:=U;unfold yH;rw[show zh x.uB=true from decide_eq_true B,decide_eq_true (show(0:Nat)<4 by decide),nM,za,decide_eq_false h3,cond_false,za];by_cases h2:x.uB%4=1
  ·rw[decide_eq_true h2,mP,cond_false];have:=zzh (N:=N) (x:=x) (by_:=by_) I J O H B (T1:=[]) (D1:=[]) (R1:=[]) (.inl ⟨rfl,rfl,rfl⟩) (by simp) (by simp) (by simp) (.inr (by omega)) (q:=0) (by omega) (fl:=[fdV F0]) rfl;exact this
  ·rw[decide_eq_false h2,nT,cond_true,U,ze];obtain⟨T',D,rs,q',fl',g1,g2,g3,Z,g5,g6,e⟩:=zqG (N:=N) (f:= -1) (t:= -1) (b:= -1) (a:= -1) (by_:=by_) (rp:=[]) (Fd:=Fd) hA (by omega) H (T:=tog) (L:=[tog]) (q:=0) (fl:=[fdV F0]) (by simp[tog]) (by simp) (by omega) rfl;have j:rs≠[]:=fun e=>by rw[e]at Z;simp at Z;omega
   rw[show((0:Int))=((0:Nat):Int)from rfl,e,ze];exact zzh I J O H B (T1:=kw [84,65,76,76,89,73,78,71]::T') (D1:=D) (R1:=rs) (.inr ⟨T',rfl,g1,j⟩) (by rw[mC];omega) (by omega) (by omega) (.inl j) (q:=q') (by omega) (by rw[g6];rfl)
end Go.Proofs.C06
end
section
set_option maxRecDepth 100000
namespace Go.Proofs.C06
open Go Go.RowKit Go.Vc Go.Am
theorem znf{ts:List Token}{ok:Bool}{f t b a:Int}{R1 R2:List AV}{p:Nat}{L:Lv}:(Yb ts ok f t b a R1 R2 p L).2.2.2.2.2.2.2=0\/(Yb ts ok f t b a R1 R2 p L).2.2.2.2.2.2.2=4:=by
 unfold Yb;split
 ·exact .inl rfl
 ·exact .inr rfl
theorem ztl{ts:List Token}{j:Bool}{r:Bool×List Rule×Nat×Lv}:(zb2 ts j r).2.2.2.2.2.2.2=0\/(zb2 ts j r).2.2.2.2.2.2.2=4:=by
 unfold zb2;split
 ·split
  ·split
   ·exact .inr rfl
   ·exact znf
  ·exact znf
 ·exact .inr rfl
theorem ztK(ts:List Token):(qF ts).2.2.2.2.2.2.2=0\/(qF ts).2.2.2.2.2.2.2=4:=by
 unfold qF;split
 ·split
  ·exact znf
  ·split
   ·exact ztl
   ·exact ztl
 ·exact .inr rfl
end Go.Proofs.C06
end
section
set_option maxRecDepth 100000
namespace Go.Proofs.C06
open Go Go.RowKit Go.Vc Go.Am
variable {N : Nat}
theorem ze9{R:List Rule}(B:R.length<=1000):∀(k i:Nat),i<=R.length->R.length-i<k->qH N k (R.map rlV) (R.map rlV) (i:Int)=some true
 |0,_,_,h=>by omega
 |k+1,i,hi,hk=>by
  show Yz N (qH N k) (R.map rlV) (R.map rlV) (i:Int)=_;unfold Yz;rw[mE];by_cases h:i<R.length
  ·have y:R[i]? =some R[i]:=kZ h;have j:zw (i:Int) R.length=true:=zB.2 ⟨by omega,by omega⟩;rw[decide_eq_true (by omega),cond_true,zth y,j];generalize R[i]=r;show chk true (chk true (cond (!(decide (r.uD=r.uD)&&(decide (r.uC=r.uC)&&(decide (r.uE=r.uE)&&(decide (r.By=r.By)&&(decide (r.uK=r.uK)&&(decide (r.uI=r.uI)&&true))))))) (some false) (chk (zn .i64 ((i:Int)+1)) (qH N k (R.map rlV) (R.map rlV) ((i+1:Nat):Int)))))=some true;simp only[decide_true,Bool.and_true,mP,cond_false,za];rw[yu (by omega) (by omega),za];exact ze9 B k (i+1) (by omega) (by omega)
  ·rw[decide_eq_false (by omega),cond_false]
theorem zkS{R:List Rule}(j:R.length<=1000)(y:1100<N):WN N (R.map rlV) (R.map rlV)=some true:=by unfold WN;rw[decide_eq_true rfl,mP,cond_false];exact ze9 j N 0 (by omega) (by omega)
end Go.Proofs.C06
end
section
set_option maxRecDepth 100000
namespace Go.Proofs.C06
open Go Go.RowKit Go.Vc Go.Am Go.Dg
theorem zBq{N:Nat}(y:3000<N){x:F}(J:0<=x.uA)(h2:x.uA<=255)(h3:0<=x.uJ)(h4:x.uJ<=255)(Z:0<=x.uB)(h6:x.uB<=255):∃f,fOf N x=some f:=by
 have j:=zqo (N:=N) y (x:=x) (dg:=x.uA.toNat) (fm:=x.uB.toNat) (pt:=x.uJ.toNat) (by omega) (by omega) (by omega) (by omega) (by omega) (by omega);obtain⟨n,O⟩:∃n,n=x.uA.toNat%18+1:=⟨_,rfl⟩
 obtain⟨l,I,U,H⟩:=zuv (N:=N) y (x:=x) J;rw[<-O]at j H;obtain⟨B,_,_⟩:=zzV (n:=n) (pt:=x.uJ.toNat) (fm:=x.uB.toNat) (by omega) (by omega);unfold fOf;rw[j,ze,I,ze,zqa y B U H x.wF,ze];exact⟨_,rfl⟩
end Go.Proofs.C06
end
section
set_option maxRecDepth 100000
namespace Go.Proofs.C06
open Go Go.RowKit Go.Vc Go.Am
variable {N : Nat} {x : S}
theorem zA8{b4 I U H j:Int}{O:uAS}{ta rp J Z t3 B y:List AV}:Kv N ta x b4 I U H O j rp J Z t3 B y=yH N x b4 I U H O j ta rp J Z t3 B y:=rfl
section
variable {Bs : List R} (h : 0 < Bs.length)
include h
theorem zzZ{O I Z H j:Int}{U:uAS}{J t2 t3 B y:List AV}:yQ N (Bs.map rR) O I Z H U j J t2 t3 B y=qc N O I Z H U j (Bs.map rR) J t2 t3 B y:=by have a0:zw 0 (Bs.map rR).length=true:=zkw h;have e:qc N O I Z H U j (Bs.map rR) J t2 t3 B y=chk (zw 0 (Bs.map rR).length) (yQ N (Bs.map rR) O I Z H U j J t2 t3 B y):=rfl;rw[e,a0,za]
theorem zzg{O I Z H j:Int}{U:uAS}{ta J t2 t3 B y:List AV}:Yp N (Bs.map rR) x O I Z H U j ta J t2 t3 B y=yH N x O I Z H U j ta (Bs.map rR) J t2 t3 B y:=by
 have a0:zw 0 (Bs.map rR).length=true:=zkw h;have a1:(jS (atV (Bs.map rR) 0) 5&&(zd .u8 (zb (atV (Bs.map rR) 0) 0)&&(zd .u8 (zb (atV (Bs.map rR) 0) 1)&&(zd .u8 (zb (atV (Bs.map rR) 0) 2)&&(zd .u8 (zb (atV (Bs.map rR) 0) 3)&&(zd .u8 (zb (atV (Bs.map rR) 0) 4)&&true))))))=true:=by rw[show atV (Bs.map rR) 0=rR Bs[0]from zeH h];rfl
 have a2:(jS (atV (Bs.map rR) 0) 5&&zd .u8 (zb (atV (Bs.map rR) 0) 2))=true:=by rw[show atV (Bs.map rR) 0=rR Bs[0]from zeH h];rfl
 have k3:∀O I Z H U j J t2 t3 B y,qB N (Bs.map rR) x O I Z H U j J t2 t3 B y=qW N x O I Z H U j (Bs.map rR) J t2 t3 B y:=fun _ _ _ _ _ _ _ _ _ _ _=>rfl
 unfold Yp yH;rw[a0,a1,a2,nM];simp only[za,zzZ h,k3]
theorem zA7{b4 I U H j:Int}{O:uAS}{ta J Z t3 B y:List AV}:Ku N ta (Bs.map rR) x b4 I U H O j J Z t3 B y=yH N x b4 I U H O j ta (Bs.map rR) J Z t3 B y:=zzg h
end
theorem zj9{l:List AV}(h:l.length<=5):Am.subL l 0 (QE (l.length:Int) 5)=l/\jb 0 (QE (l.length:Int) 5) l.length=true:=by
 have e:QE (l.length:Int) 5=(l.length:Int):=by unfold QE;split<;>omega
 rw[e];exact⟨K4 l,zK.2 ⟨by omega,by omega,by omega⟩⟩
def zR:R:=⟨0,0,0,0,0⟩
theorem zAX:InRq zR:=⟨⟨by decide,by decide⟩,⟨by decide,by decide⟩,⟨by decide,by decide⟩,⟨by decide,by decide⟩,⟨by decide,by decide⟩⟩
theorem ziw{y:R}(h:y∈[zR]):InRq y:=by rw[mD]at h;subst h;exact zAX
theorem zsa{As Bs:List R}(H:x.vG=As.map rR)(j:x.vH=Bs.map rR)(hA:∀y∈As,InRq y)(I:As.length<=5)(O:∀y∈Bs,InRq y)(B:Bs.length<=5)(J:1100<N)(U:0<=x.uB)(Z:∃Fd,fOf N (F.mk x.vJ 0 x.vK x.vO x.vP)=some Fd):
  zbm x.wE (zkf N x):=by
 obtain⟨s,es,hs⟩:=zp8 (N:=N) (n:=30) (by omega) (by omega) x.uH;obtain⟨Fd,hFd⟩:=zaQ (N:=N) (s:=[42]++s) (by rw[kW];simp;omega) J;have eb:znF N ([.agg [.int .u8 (kw [84]).uG,.str (kw [84]).uH,.int .i64 (kw [84]).uO,.int .i64 (kw [84]).uP,.bool (kw [84]).uQ],.agg [.int .u8 (kw [79,70]).uG,.str (kw [79,70]).uH,.int .i64 (kw [79,70]).uO,.int .i64 (kw [79,70]).uP,.bool (kw [79,70]).uQ],.agg [.int .u8 (kw [71]).uG,.str (kw [71]).uH,.int .i64 (kw [71]).uO,.int .i64 (kw [71]).uP,.bool (kw [71]).uQ]]:List AV) Fd (-1) (-1) (-1) (-1) x.wE 0 [] [] [] [] []=
   some (0,-1,-1,-1,-1,x.wE,0,[],[],tkL tog,[fdV Fd],[tog].map lfB):=rfl
 have ha5:x.vG.length<=5:=by rw[H,mE];exact I
 have hb5:x.vH.length<=5:=by rw[j,mE];exact B
 obtain⟨m1,m2⟩:=zj9 ha5;obtain⟨m3,m4⟩:=zj9 hb5;unfold zkf;rw[show zX N 1 [84]=some (kw [84])from rfl,ze,show zX N 1 [79,70]=some (kw [79,70])from rfl,ze,show zX N 1 [71]=some (kw [71])from rfl,ze];rw[show ziU N x.uH 30=some s from es,ze,znv (by simp;omega),za,hFd,ze,eb,ze,m2,za,m4,za,m1,m3];dsimp only;have ez:([.agg [.int .u8 0,.int .u8 0,.int .u8 0,.int .u8 0,.int .u8 0]]:List AV)=[zR].map rR:=rfl;rw[ez];cases hAs:As with
 |nil=>
  rw[hAs]at H;rw[H,decide_eq_true (by rfl),cond_true];unfold zew;cases hBs:Bs with
  |nil=>rw[hBs]at j;rw[j,decide_eq_true (by rfl),cond_true,ez];exact zn6 (As:=[zR]) (Bs:=[zR]) (fun y h=>ziw h) (by simp) (by simp) (fun y h=>ziw h) (by simp) (by simp) J U Z
  |cons y ys=>rw[hBs]at j O B;rw[j,decide_eq_false (by rw[mE,mC];omega),cond_false,zzg (by simp)];exact zn6 (As:=[zR]) (Bs:=y::ys) (fun y h=>ziw h) (by simp) (by simp) O (by simp) B J U Z
 |cons z zs=>
  rw[hAs]at H hA I;rw[H,decide_eq_false (by rw[mE,mC];omega),cond_false];unfold Kw;cases hBs:Bs with
  |nil=>rw[hBs]at j;rw[j,decide_eq_true (by rfl),cond_true,ez,zA8];exact zn6 (As:=z::zs) (Bs:=[zR]) hA (by simp) I (fun y h=>ziw h) (by simp) (by simp) J U Z
  |cons y ys=>rw[hBs]at j O B;rw[j,decide_eq_false (by rw[mE,mC];omega),cond_false,zA7 (by simp)];exact zn6 (As:=z::zs) (Bs:=y::ys) hA (by simp) I O (by simp) B J U Z
theorem zyw{L:Lv}{i:Nat}(h:i<L.length):atV (L.map lfB) (i:Int)=lfB (L.getD i []):=by rw[Xh,mG,mX,mG,kZ h];rfl
theorem zt4{f:Int}(h:f=0\/f=4):JF N f 4=some true:=by rcases h with rfl|rfl<;>rfl
theorem ze5{ts:List Token}{L:Lv}(hc:Cx N ts)(B:Cx N (ts++[kw [84,79]]))(hp:1<=ts.length)(h4:(qF (ts++[kw [84,79]])).2.2.2.2.2.2.2=4)(hL:L.length<=1000)(y:∀l∈L,l.length<=1000){J v2 v3 Z v6:Int}{v5:uAS}{I:Inspect}(O:I.wH=L.map lfR){w1 w2 U:List AV}:∀(k i:Nat),i<=L.length->L.length-i<k->
  yJ N k (i:Int) (tkL ts) J v2 v3 Z v5 v6 I w1 w2 U (L.map lfB)=some true
 |0,_,_,h=>by omega
 |k+1,i,hi,hk=>by
  show Zr N (yJ N k) (i:Int) (tkL ts) J v2 v3 Z v5 v6 I w1 w2 U (L.map lfB)=_;unfold Zr;rw[O];by_cases h:i<L.length
  ·have i1:zw (i:Int) (L.map lfR).length=true:=zB.2 ⟨by omega,by rw[mE];omega⟩;have i2:zw (i:Int) (L.map lfB).length=true:=zB.2 ⟨by omega,by rw[mE];omega⟩;have j:(L.getD i []).length<=1000:=by rw[mG,kZ h];exact y _ (uAz h)
   rw[decide_eq_true (by rw[mE];omega),cond_true,zt0 h,zyw h,i1,i2];show chk true (chk true (chk true (bnd (zbp N (tkL (L.getD i [])) (tkL (L.getD i []))) _)))=_;rw[za,za,za,zj8 j hc.hN,zet,ze,mP,cond_false,yu (by omega) (by omega),za];exact ze5 hc B hp h4 hL y O k (i+1) (by omega) (by omega)
  ·have hl:=hc.hl;have e1:((tkL ts).length:Int)-1=((ts.length-1:Nat):Int):=by rw[z8];omega
   have H:Cx N (ts.take (ts.length-1)):=⟨hc.hN,by rw[mH];omega,fun u hu=>hc.hw u (uAy hu)⟩
   have es:Am.subL (tkL ts) 0 ((ts.length-1:Nat):Int)=tkL (ts.take (ts.length-1)):=zhE (i:=0);have ea:tkL ts++([.agg [.int .u8 (kw [84,79]).uG,.str (kw [84,79]).uH,.int .i64 (kw [84,79]).uO,.int .i64 (kw [84,79]).uP,.bool (kw [84,79]).uQ]]:List AV)=tkL (ts++[kw [84,79]]):=K3 ts 1 [84,79];have hz:Am.subL (tkL ts) 0 ((tkL ts).length:Int)=tkL ts:=K4 _;rw[decide_eq_false (by rw[mE];omega),cond_false,e1,yu (by omega) (by omega),za,zK.2 ⟨by omega,by omega,by rw[z8];omega⟩,za,es,za2 H,ze,
    zK.2 ⟨by omega,by omega,by omega⟩,decide_eq_true rfl,nM,za,show zX N 1 [84,79]=some (kw [84,79])from rfl,ze,hz,ea,zpj,uAc,JH (by rw[z8,kW,mF];omega),za,za2 B,ze,h4]
   exact zt4 (ztK _)
theorem zb7(x:S)(hT:∀v∈x.vG,∃u,v=rR u/\InRq u)(hR:∀v∈x.vH,∃u,v=rR u/\InRq u)(hF:0<=x.uB)(h1:0<=x.vJ)(h2:x.vJ<=255)(h5:0<=x.vK)(h6:x.vK<=255):∃N,j6 N x=some true:=by
 refine⟨4000,?_⟩;have j:∀{l:List AV},(∀v∈l,∃u,v=rR u/\InRq u)->∃H:List R,l=H.map rR/\∀u∈H,InRq u:=by
  intro l;induction l with
  |nil=>exact fun _=>⟨[],rfl,fun u h=>by cases h⟩
  |cons v l ih=>
   intro h;obtain⟨u,rfl,hu⟩:=h v mV;obtain⟨H,rfl,I⟩:=ih fun w y=>h w (mU _ y)
   exact⟨u::H,rfl,fun w y=>(mS.1 y).elim (fun e=>e▸hu) (I w)⟩
 unfold j6;by_cases c1:5<x.vG.length
 ·rw[decide_eq_true (by omega),cond_true]
 ·by_cases c2:5<x.vH.length
  ·rw[decide_eq_false (by omega),cond_false,decide_eq_true (by omega),cond_true]
  ·rw[decide_eq_false (by omega),cond_false,decide_eq_false (by omega),cond_false];obtain⟨As,O,hA⟩:=j hT;obtain⟨Bs,U,Z⟩:=j hR;obtain⟨Fd,hO⟩:=zBq (N:=4000) (by decide) (x:=F.mk x.vJ 0 x.vK x.vO x.vP) h1 h2 (show(0:Int)<=0 by decide) (show(0:Int)<=255 by decide) h5 h6;obtain⟨ts,f,t,b,a,R1,R2,L,q,fl,B,hts,hL,hR1,hR2,e⟩:=zsa (N:=4000) O U hA (by rw[O,mE]at c1;omega) Z (by rw[U,mE]at c2;omega) (by decide) hF ⟨Fd,hO⟩;obtain⟨p1,p2⟩:=zvi B;have y:=zA6 B;have hc:Cx 4000 ts:=⟨by decide,by omega,y⟩
   have J:Cx 4000 (ts++[kw [84,79]]):=⟨by decide,by rw[kW,mF];omega,ZS y (qy (by rfl) ZR)⟩
   unfold zl3;rw[e,ze,ze];unfold zl1;dsimp only;rw[za2 hc,p1,ze];dsimp only;rw[decide_eq_true rfl,mP,cond_false,zkS (by omega) (by decide),ze,mP,cond_false,zkS (by omega) (by decide),ze,mP,cond_false,decide_eq_true rfl,mP,cond_false,decide_eq_true rfl,mP,cond_false,decide_eq_true rfl,mP,cond_false,decide_eq_true rfl,mP,cond_false,
    decide_eq_true (by rw[mE,mE]),mP,cond_false]
   exact ze5 hc J (zzK B) p2 (by omega) (fun l hl=>by have:=zvj B l hl;omega) rfl 4000 0 (by omega) (by omega)
end Go.Proofs.C06
end
