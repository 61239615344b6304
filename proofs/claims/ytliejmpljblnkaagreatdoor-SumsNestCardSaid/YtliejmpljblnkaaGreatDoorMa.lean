/-
  A part of the proof of the laws.
-/
import Derived.Test.YtliejmpljblnkaaGreatDoorCi
section
set_option maxRecDepth 100000
namespace Go.Proofs.C06
open Go Go.RowKit Go.Vc Go.Am
theorem qb{n:Int}(h1: -9223372036854775808≤n)(h2:n≤9223372036854775807):zx .i64 n=true:=
 Jw.2 ⟨h1,h2⟩
def tkV(t:Token):AV:=.agg [.int .u8 t.Kind,.str t.Text,.int .i64 t.At_Line,.int .i64 t.At_Column,.bool t.Left]
def tkL(ts:List Token):List AV:=ts.map tkV
theorem zT(ts:List Token):(tkL ts).length=ts.length:=by simp[tkL]
theorem zno(L:List AV)(m:Nat):atV L (m:Int)=L.getD m .undef:=by unfold atV;rw[Int.toNat_natCast]
theorem Yw{ts:List Token}{i:Nat}{t:Token}(h:ts[i]? =some t):atV (tkL ts) (i:Int)=tkV t:=by rw[zno,List.getD_eq_getElem?_getD,tkL,List.getElem?_map,h];rfl
theorem zsd{ts:List Token}{i:Nat}{t:Token}(h:ts[i]? =some t):zZ (i:Int) (tkL ts).length=true:=by have:=(List.getElem?_eq_some_iff.1 h).1;rw[zT];exact zO.2 ⟨by omega,by omega⟩
def zew(l:List AV)(i:Int):Bool:=zZ i (l).length&&(j5 (atV l i) 5&&(zg .u8 (za (atV l i) 0)&&(jC (za (atV l i) 1)&&(zg .i64 (za (atV l i) 2)&&(zg .i64 (za (atV l i) 3)&&(jc (za (atV l i) 4)&&true))))))
theorem zbr{ts:List Token}{i:Nat}{t:Token}(h:ts[i]? =some t):zew (tkL ts) (i:Int)=true:=by unfold zew;rw[zsd h,Yw h];rfl
theorem zbw{N:Nat}{s:List (List UInt8)}{v:List UInt8}(hs:s.length≤1000):∀(k i:Nat),i≤s.length→s.length-i<k→
  ∃r:Int,YX N k s v (s.length:Int) (i:Int)=some r∧(0≤r↔v∈s.drop i)
 |0,i,_,h=>by omega
 |k+1,i,hi,hk=>by
  show∃r:Int,XQ N (YX N k) s v (s.length:Int) (i:Int)=some r∧_;unfold XQ;by_cases h:i<s.length
  ·have e:atS s (i:Int)=s[i]:=by unfold atS;rw[Int.toNat_natCast,List.getD_eq_getElem?_getD,List.getElem?_eq_getElem h];rfl
   rw[decide_eq_true (show(i:Int)<(s.length:Int)by omega),cond_true,zO.2 ⟨by omega,by omega⟩,zm,e];by_cases hv:v=s[i]
   ·rw[decide_eq_true hv,cond_true];exact⟨i,rfl,fun _=>by rw[List.drop_eq_getElem_cons h,hv];exact List.mem_cons_self,fun _=>by omega⟩
   ·rw[decide_eq_false hv,cond_false,qb (by omega) (by omega),zm];obtain⟨r,h1,h2⟩:=zbw hs k (i+1) (by omega) (by omega);exact⟨r,h1,by rw[h2,List.drop_eq_getElem_cons h,List.mem_cons];simp[hv]⟩
  ·rw[decide_eq_false (show¬(i:Int)<(s.length:Int)by omega),cond_false];exact⟨-1,rfl,by rw[List.drop_of_length_le (by omega)];simp⟩
theorem zkR{N:Nat}{s:List (List UInt8)}{v:List UInt8}(hs:s.length≤1000)(hN:s.length<N):zeH N s v=some (decide (v∈s)):=by unfold zeH zrA;obtain⟨r,h1,h2⟩:=zbw (N:=N) (v:=v) hs N 0 (by omega) (by omega);rw[show((0:Int))=((0:Nat):Int)from rfl,h1,zG];exact congrArg some (decide_eq_decide.2 h2)
def isT(ts:List Token)(i:Nat)(k:Int)(w:List (List UInt8)):Bool:=match ts[i]? with
 |some t=>decide (t.Kind=k)&&decide (t.Text∈w)
 |none=>false
theorem qk{N:Nat}{ts:List Token}{i:Nat}{k:Int}{w:List (List UInt8)}(hw:w.length≤1000)(hN:w.length<N):sIs N (tkL ts) (i:Int) k w=some (isT ts i k w):=by
 unfold sIs isT;cases h:ts[i]? with
 |none=>have:=List.getElem?_eq_none_iff.1 h;rw[decide_eq_false (by rw[zT];omega),cond_false]
 |some t=>
  have hlt:=(List.getElem?_eq_some_iff.1 h).1;have hk:=zbr h;unfold zew at hk;rw[decide_eq_true (by rw[zT];omega),cond_true,hk,zm,zm,Yw h];show cond (decide (t.Kind=k)) (bnd (zeH N w t.Text) fun rr=>some rr) (some false)=_;rw[zkR hw hN,zG];dsimp only;by_cases hkk:t.Kind=k
  ·rw[decide_eq_true hkk,cond_true,Bool.true_and]
  ·rw[decide_eq_false hkk,cond_false,Bool.false_and]
def Wd(t:Token):Prop:=t.Kind=1→ze3 t.Text JX=true
def nmT(ts:List Token)(i:Nat):Bool:=match ts[i]? with
 |some t=>decide (t.Kind=1)&&decide (Ym t.Text qP=0)
 |none=>false
theorem zg7{s:List UInt8}(h:ze3 s JX=true):ziv s=some (Ym s qP):=by unfold ziv;rw[h,zm]
theorem zeE{N:Nat}{ts:List Token}{i:Nat}(hw:∀t∈ts,Wd t):zeF N (tkL ts) (i:Int)=some (nmT ts i):=by
 unfold zeF nmT;cases h:ts[i]? with
 |none=>have:=List.getElem?_eq_none_iff.1 h;rw[decide_eq_false (by rw[zT];omega),cond_false]
 |some t=>
  have hlt:=(List.getElem?_eq_some_iff.1 h).1;have hk:=zbr h;unfold zew at hk;rw[decide_eq_true (by rw[zT];omega),cond_true,hk,zm,zm,Yw h];show cond (decide (t.Kind=1)) (bnd (ziv t.Text) fun rr=>some (decide (rr=0))) (some false)=_;by_cases hkk:t.Kind=1
  ·rw[decide_eq_true hkk,cond_true,zg7 (hw t (List.mem_of_getElem? h) hkk),zG];simp[hkk]
  ·rw[decide_eq_false hkk,cond_false];simp[hkk]
def isP(t:Token)(c:UInt8):Bool:=decide (t.Kind=5)&&decide (t.Text=[c])
def dep(t:Token)(d:Int):Int:=if isP t 40 then d+1 else if isP t 41 then d-1 else d
def prt(t:Token)(d:Int)(p:Bool):Bool:=if isP t 40 then p else if isP t 41 then p else if isP t 58&&decide (d=1)then true else p
def Jx:List Token→Int→Bool→Nat→Nat×Bool
 |[],_,_,_=>(0,false)
 |t::r,d,p,n=>if dep t d=0 then(n+1,prt t d p)else Jx r (dep t d) (prt t d p) (n+1)
def grp(ts:List Token)(i:Nat):Nat×Bool:=if isT ts i 5 [[40]]then Jx (ts.drop i) 0 false 0 else(0,false)
theorem grpL_le:∀(r:List Token)(d:Int)(p:Bool)(n:Nat),(Jx r d p n).1=0∨(n<(Jx r d p n).1∧(Jx r d p n).1≤n+r.length)
 |[],_,_,_=>.inl rfl
 |t::r,d,p,n=>by
  unfold Jx;split
  ·exact .inr ⟨by dsimp only;omega,by simp⟩
  ·rcases grpL_le r (dep t d) (prt t d p) (n+1)with h|⟨h1,h2⟩
   ·exact .inl h
   ·exact .inr ⟨by omega,by rw[List.length_cons];omega⟩
theorem zdW(ts:List Token)(i:Nat)(_hi:i≤ts.length):(grp ts i).1≤ts.length-i:=by
 unfold grp;split
 ·rcases grpL_le (ts.drop i) 0 false 0 with h|⟨_,h2⟩
  ·omega
  ·rw[List.length_drop]at h2;omega
 ·exact Nat.zero_le _
theorem zmS{ts:List Token}{i:Nat}{t:Token}(h:ts[i]? =some t)(c:UInt8):isT ts i 5 [[c]]=isP t c:=by unfold isT isP;rw[h];simp
theorem Z8{N:Nat}(hN:1<N){ts:List Token}(hl:ts.length≤1000){i:Nat}:∀(k j:Nat)(d:Int)(p:Bool),i≤j→j≤ts.length→ts.length-j<k→ -(j:Int)≤d→d≤(j:Int)→
  yz N k (tkL ts) (i:Int) d p (j:Int)=some ((((Jx (ts.drop j) d p (j-i)).1:Nat):Int),(Jx (ts.drop j) d p (j-i)).2)
 |0,j,_,_,_,_,h,_,_=>by omega
 |k+1,j,d,p,hij,hj,hk,h1,h2=>by
  show Z9 N (yz N k) (tkL ts) (i:Int) d p (j:Int)=_;unfold Z9;by_cases h:j<ts.length
  ·have hg:ts[j]? =some ts[j]:=List.getElem?_eq_getElem h;rw[decide_eq_true (by rw[zT];omega),cond_true,qk (by simp) hN,zG,qk (by simp) hN,zG,qk (by simp) hN,zG,zmS hg,zmS hg,zmS hg];rw[List.drop_eq_getElem_cons h];generalize ts[j]=t;have fin:∀(d':Int)(p':Bool),d'=dep t d→p'=prt t d p→yb N (yz N k) (tkL ts) (i:Int) d' p' (j:Int)=
     some ((((Jx (t::ts.drop (j+1)) d p (j-i)).1:Nat):Int),(Jx (t::ts.drop (j+1)) d p (j-i)).2):=by
    intro d' p' hd hp;have hb: -(j:Int)-1≤d'∧d'≤(j:Int)+1:=by rw[hd];unfold dep;(repeat' split)<;>omega
    unfold yb Jx;rw[←hd,←hp,qb (by omega) (by omega)];by_cases h0:d'=0
    ·rw[decide_eq_true h0,cond_true,if_pos h0,zm,qb (by omega) (by omega),zm];refine congrArg some (Prod.ext ?_ rfl);dsimp only;omega
    ·rw[decide_eq_false h0,cond_false,if_neg h0,zm];have:=Z8 hN hl (i:=i) k (j+1) d' p' (by omega) (by omega) (by omega) (by omega) (by omega);rw[show j+1-i=j-i+1 by omega]at this;exact this
   cases ha:isP t 40 with
   |true=>rw[cond_true,qb (by omega) (by omega),zm];exact fin _ _ (by unfold dep;rw[ha];rfl) (by unfold prt;rw[ha];rfl)
   |false=>
    rw[cond_false];cases hb:isP t 41 with
    |true=>rw[cond_true,qb (by omega) (by omega),zm];exact fin _ _ (by unfold dep;rw[ha,hb];rfl) (by unfold prt;rw[ha,hb];rfl)
    |false=>
     rw[cond_false];have hd:d=dep t d:=by unfold dep;rw[ha,hb];rfl
     cases hc:isP t 58 with
     |true=>
      rw[cond_true];by_cases h1:d=1
      ·rw[decide_eq_true h1,cond_true];exact fin _ _ hd (by unfold prt;rw[ha,hb,hc,decide_eq_true h1];rfl)
      ·rw[decide_eq_false h1,cond_false];exact fin _ _ hd (by unfold prt;rw[ha,hb,hc,decide_eq_false h1];rfl)
     |false=>rw[cond_false];exact fin _ _ hd (by unfold prt;rw[ha,hb,hc];rfl)
  ·rw[decide_eq_false (by rw[zT];omega),cond_false,List.drop_of_length_le (by omega)];rfl
theorem zbx{N:Nat}(hN:1<N){ts:List Token}(hl:ts.length≤1000)(hN2:ts.length<N){i:Nat}(hi:i≤ts.length):WU N (tkL ts) (i:Int)=some (((grp ts i).1:Int),(grp ts i).2):=by
 unfold WU grp;rw[qk (by simp) hN,zG];cases isT ts i 5 [[40]]with
 |false=>rfl
 |true=>
  rw[Bool.not_true,cond_false,if_pos rfl];by_cases h0:i=0
  ·subst h0;exact Z8 hN hl N 0 0 false (Nat.le_refl _) hi (by omega) (by omega) (by omega)
  ·have:=Z8 hN hl (i:=i) N i 0 false (Nat.le_refl _) hi (by omega) (by omega) (by omega);rw[Nat.sub_self]at this;exact this
def ofN(ts:List Token):Nat→Nat→Nat
 |0,n=>n
 |k+1,n=>if isT ts n 1 [[79,70],[73,78]]&&nmT ts (n+1)then ofN ts k (n+2)else n
def opG(ts:List Token)(n:Nat):Nat:=if 0<(grp ts n).1∧(grp ts n).2=false then(if(grp ts (n+(grp ts n).1)).2 then n+(grp ts n).1+(grp ts (n+(grp ts n).1)).1 else n+(grp ts n).1)else n+(grp ts n).1
def opd(ts:List Token):Nat×Int:=
 if nmT ts 0 then(opG ts (ofN ts ts.length 1),0)
 else match ts[0]? with
  |none=>(0,4)
  |some t=>if t.Kind=2∨t.Kind=3∨(t.Kind=1∧Ym t.Text qP=3)then(1,0)else(0,4)
theorem zmD{ts:List Token}{i:Nat}(h:nmT ts i=true):i<ts.length:=by
 unfold nmT at h;split at h
 ·rename_i t ht;exact (List.getElem?_eq_some_iff.1 ht).1
 ·cases h
theorem zrR{ts:List Token}{n:Nat}(h1:1≤n)(hn:n≤ts.length):1≤opG ts n∧opG ts n≤ts.length:=by
 have g1:=zdW ts n hn;have g2:=zdW ts (n+(grp ts n).1) (by omega);unfold opG;split
 ·split<;>omega
 ·omega
theorem Yi{N:Nat}(hN:1<N){ts:List Token}(hl:ts.length≤1000)(hN2:ts.length<N){n:Nat}(hn:n≤ts.length):yN N (tkL ts) (n:Int)=some ((opG ts n:Int),0):=by
 have g1:=zdW ts n hn;have g2:=zdW ts (n+(grp ts n).1) (by omega);unfold yN;rw[zbx hN hl hN2 hn,zG];dsimp only;rw[qb (by omega) (by omega),zm,show(n:Int)+((grp ts n).1:Int)=((n+(grp ts n).1:Nat):Int)by omega];have k1:∀b:Bool,yM N (tkL ts) ((n+(grp ts n).1:Nat):Int) b=some (((if b=true then(if(grp ts (n+(grp ts n).1)).2 then n+(grp ts n).1+(grp ts (n+(grp ts n).1)).1 else n+(grp ts n).1)else n+(grp ts n).1:Nat):Int),0):=by
  intro b;unfold yM;cases b with
  |false=>rw[cond_false,if_neg (by simp)]
  |true=>
   rw[cond_true,if_pos rfl,zbx hN hl hN2 (by omega),zG];dsimp only;rw[qb (by omega) (by omega),zm];cases(grp ts (n+(grp ts n).1)).2 with
   |true=>rw[cond_true,if_pos rfl];exact congrArg some (Prod.ext (by dsimp only;omega) rfl)
   |false=>rw[cond_false,if_neg (by simp)]
 by_cases h0:0<(grp ts n).1
 ·rw[decide_eq_true (show(0:Int)<((grp ts n).1:Int)by omega),cond_true,k1];unfold opG;cases(grp ts n).2 with
  |true=>simp
  |false=>simp[h0]
 ·rw[decide_eq_false (show¬(0:Int)<((grp ts n).1:Int)by omega),cond_false,k1,if_neg (by simp)];unfold opG;rw[if_neg (fun h=>h0 h.1)]
theorem Yh{N:Nat}(hN:2<N){ts:List Token}(hl:ts.length≤1000)(hN2:ts.length<N)(hw:∀t∈ts,Wd t):∀(k f n:Nat),1≤n→n≤ts.length→ts.length-n<k→ts.length-n<f+1→
  ∃m,ofN ts f n=m∧1≤m∧m≤ts.length∧yL N k (tkL ts) (n:Int)=some ((opG ts m:Int),0)
 |0,_,n,_,_,h,_=>by omega
 |k+1,f,n,h1,hn,hk,hf=>by
  show∃m,_∧_∧_∧qR N (yL N k) (tkL ts) (n:Int)=_;unfold qR;rw[qk (by simp) (by simpa using hN),zG];have stop:∀f',(isT ts n 1 [[79,70],[73,78]]&&nmT ts (n+1))=false→ofN ts f' n=n:=by
   intro f' h;cases f' with
   |zero=>rfl
   |succ f'=>unfold ofN;rw[h];rfl
  cases ha:isT ts n 1 [[79,70],[73,78]]with
  |false=>rw[cond_false];exact⟨n,stop f (by rw[ha];rfl),h1,hn,Yi (by omega) hl hN2 hn⟩
  |true=>
   rw[cond_true,qb (by omega) (by omega),zm,show(n:Int)+1=((n+1:Nat):Int)from rfl,zeE hw,zG];cases hb:nmT ts (n+1)with
   |false=>rw[cond_false];exact⟨n,stop f (by rw[hb,Bool.and_false]),h1,hn,Yi (by omega) hl hN2 hn⟩
   |true=>
    have:=zmD hb;rw[cond_true,qb (by omega) (by omega),zm,show(n:Int)+2=((n+2:Nat):Int)from rfl];cases f with
    |zero=>omega
    |succ f=>obtain⟨m,g1,g2,g3,g4⟩:=Yh hN hl hN2 hw k f (n+2) (by omega) (by omega) (by omega) (by omega);refine⟨m,?_,g2,g3,g4⟩;unfold ofN;rw[ha,hb];exact g1
theorem zeC{N:Nat}(hN:2<N){ts:List Token}(hl:ts.length≤1000)(hN2:ts.length<N)(hw:∀t∈ts,Wd t):YW N (tkL ts)=some (((opd ts).1:Int),(opd ts).2)∧(opd ts).1≤ts.length:=by
 unfold YW opd;rw[show((0:Int))=((0:Nat):Int)from rfl,zeE hw,zG];cases h0:nmT ts 0 with
 |true=>have hlt:=zmD h0;rw[Bool.not_true,cond_false,if_pos rfl];obtain⟨m,g1,g2,g3,g4⟩:=Yh hN hl hN2 hw N ts.length 1 (Nat.le_refl _) (by omega) (by omega) (by omega);rw[g1];exact⟨g4,(zrR g2 g3).2⟩
 |false=>
  rw[Bool.not_false,cond_true,if_neg (by simp)];cases h:ts[0]? with
  |none=>have:=List.getElem?_eq_none_iff.1 h;rw[decide_eq_true (show((tkL ts).length:Int)=((0:Nat):Int)by rw[zT];omega),cond_true];exact⟨rfl,Nat.zero_le _⟩
  |some t=>
   have hlt:=(List.getElem?_eq_some_iff.1 h).1;have hk:=zbr h;unfold zew at hk;rw[decide_eq_false (show¬((tkL ts).length:Int)=((0:Nat):Int)by rw[zT];omega),cond_false,hk];simp only[zm];rw[Yw h];show cond (!decide (t.Kind=2)) (cond (!decide (t.Kind=3)) (cond (!decide (t.Kind=1)) (some (((0:Nat):Int),(4:Int))) (bnd (ziv t.Text) fun rr1=>cond (!decide (rr1=3)) (some (((0:Nat):Int),4)) (some (1,((0:Nat):Int))))) (some (1,((0:Nat):Int)))) (some (1,((0:Nat):Int)))=_∧_;by_cases h2:t.Kind=2
   ·rw[decide_eq_true h2,Bool.not_true,cond_false,if_pos (.inl h2)];exact⟨rfl,by dsimp only;omega⟩
   ·rw[decide_eq_false h2,Bool.not_false,cond_true];by_cases h3:t.Kind=3
    ·rw[decide_eq_true h3,Bool.not_true,cond_false,if_pos (.inr (.inl h3))];exact⟨rfl,by dsimp only;omega⟩
    ·rw[decide_eq_false h3,Bool.not_false,cond_true];by_cases h1:t.Kind=1
     ·rw[decide_eq_true h1,Bool.not_true,cond_false,zg7 (hw t (List.mem_of_getElem? h) h1),zG];by_cases h4:Ym t.Text qP=3
      ·rw[decide_eq_true h4,Bool.not_true,cond_false,if_pos (.inr (.inr ⟨h1,h4⟩))];exact⟨rfl,by dsimp only;omega⟩
      ·rw[decide_eq_false h4,Bool.not_false,cond_true,if_neg (by simp[h1,h4])];exact⟨rfl,Nat.zero_le _⟩
     ·rw[decide_eq_false h1,Bool.not_false,cond_true,if_neg (by simp[h1,h2,h3])];exact⟨rfl,Nat.zero_le _⟩
end Go.Proofs.C06
end
section
set_option maxRecDepth 100000
namespace Go.Proofs.C06
open Go Go.RowKit Go.Vc Go.Am
def wdN(s:List UInt8):Token:=⟨1,s,0,0,false⟩
def sgN(s:List UInt8):Token:=⟨5,s,0,0,false⟩
abbrev LP:Token:=sgN [40]
abbrev RP:Token:=sgN [41]
abbrev AA:Token:=wdN [65]
def inn(n m:Nat):List Token:=List.replicate m LP++List.replicate (m+n) RP
def tks(n m:Nat):List Token:=List.replicate n LP++AA::inn n m
theorem WF(n m:Nat):(inn n m).length=2*m+n:=by simp[inn];omega
theorem JI(n m:Nat):(tks n m).length=2*n+2*m+1:=by simp[tks,WF];omega
theorem zcf{n m i:Nat}(h:i<n):(tks n m)[i]? =some LP:=by unfold tks;rw[List.getElem?_append_left (by simpa using h),List.getElem?_replicate,if_pos h]
theorem zju(n m:Nat):(tks n m)[n]? =some AA:=by unfold tks;rw[List.getElem?_append_right (by simp),List.length_replicate,Nat.sub_self];rfl
theorem zev(n m:Nat):(tks n m).drop n=AA::inn n m:=by unfold tks;rw[List.drop_append_of_le_length (by simp),List.drop_of_length_le (by simp)];rfl
theorem zmT{n m j:Nat}(h1:m≤j)(h2:j<2*m+n):(inn n m)[j]? =some RP:=by unfold inn;rw[List.getElem?_append_right (by simpa using h1),List.length_replicate,List.getElem?_replicate,if_pos (by omega)]
theorem zjt{n m i:Nat}(h1:n+1+m≤i)(h2:i<2*n+2*m+1):(tks n m)[i]? =some RP:=by have:=congrArg (·[i-n]?) (zev n m);simp only[List.getElem?_drop]at this;rw[show n+(i-n)=i by omega,show i-n=(i-n-1)+1 by omega,List.getElem?_cons_succ,zmT (by omega) (by omega)]at this;exact this
theorem zrm(n m:Nat):∀t∈tks n m,Wd t:=by
 intro t ht;unfold tks inn at ht;simp only[List.mem_append,List.mem_cons,List.mem_replicate]at ht;rcases ht with⟨_,rfl⟩|rfl|⟨_,rfl⟩|⟨_,rfl⟩
 ·intro h;cases h
 ·intro _;rfl
 ·intro h;cases h
 ·intro h;cases h
theorem zif(X:List Token)(p:Bool):∀(a:Nat)(d:Int)(c:Nat),0≤d→Jx (List.replicate a LP++X) d p c=Jx X (d+(a:Int)) p (c+a)
 |0,d,c,_=>by simp
 |a+1,d,c,h=>by rw[List.replicate_succ,List.cons_append];show(if dep LP d=0 then(c+1,prt LP d p)else Jx (List.replicate a LP++X) (dep LP d) (prt LP d p) (c+1))=_;have e:dep LP d=d+1:=rfl;rw[e,if_neg (by omega),show prt LP d p=p from rfl,zif X p a (d+1) (c+1) (by omega)];congr 1<;>omega
theorem zie(p:Bool)(b:Nat):∀(d c:Nat),Jx (List.replicate (d+1+b) RP) ((d+1:Nat):Int) p c=(c+(d+1),p)
 |0,c=>by rw[show 0+1+b=b+1 by omega,List.replicate_succ];rfl
 |d+1,c=>by
  rw[show d+1+1+b=(d+1+b)+1 by omega,List.replicate_succ];have e:dep RP ((d+1+1:Nat):Int)=((d+1:Nat):Int):=by show((d+1+1:Nat):Int)-1=_;omega
  show(if dep RP ((d+1+1:Nat):Int)=0 then _ else Jx (List.replicate (d+1+b) RP) (dep RP ((d+1+1:Nat):Int)) (prt RP ((d+1+1:Nat):Int) p) (c+1))=_;rw[e,if_neg (by omega),show prt RP ((d+1+1:Nat):Int) p=p from rfl,zie p b d (c+1)];congr 1;omega
theorem zq3{n m j:Nat}(h1:m≤j):isT (AA::inn n m) (1+j) 5 [[40]]=false:=by
 unfold isT;rw[Nat.add_comm 1 j,List.getElem?_cons_succ];by_cases h2:j<2*m+n
 ·rw[zmT h1 h2];rfl
 ·rw[List.getElem?_eq_none (by rw[WF];omega)]
theorem zsq(n m:Nat):grp (AA::inn n m) 1=(2*m,false):=by
 unfold grp;cases m with
 |zero=>rw[show isT (AA::inn n 0) 1 5 [[40]]=false from zq3 (j:=0) (Nat.le_refl _),if_neg (by simp)]
 |succ m=>rw[show isT (AA::inn n (m+1)) 1 5 [[40]]=true by unfold inn;rw[List.replicate_succ];rfl,if_pos rfl];show Jx (inn n (m+1)) 0 false 0=_;unfold inn;rw[zif _ _ _ _ _ (Int.le_refl _),show(0:Int)+((m+1:Nat):Int)=((m+1:Nat):Int)by omega,zie false n m (0+(m+1))];congr 1;omega
theorem zsm(n m:Nat):opd (AA::inn n m)=(1+2*m,0):=by
 have h0:nmT (AA::inn n m) 0=true:=by show(decide ((1:Int)=1)&&decide (Ym [65] qP=0))=true;rfl
 have h1:isT (AA::inn n m) 1 1 [[79,70],[73,78]]=false:=by
  unfold isT;rw[List.getElem?_cons_succ];unfold inn;cases m with
  |zero=>
   cases n with
   |zero=>rfl
   |succ n=>rfl
  |succ m=>rfl
 have h2:ofN (AA::inn n m) (AA::inn n m).length 1=1:=by rw[List.length_cons];unfold ofN;rw[h1,Bool.false_and];rfl
 have h3:grp (AA::inn n m) (1+2*m)=(0,false):=by unfold grp;rw[zq3 (by omega)];rfl
 unfold opd;rw[if_pos h0,h2];refine Prod.ext ?_ rfl;dsimp only;unfold opG;rw[zsq];dsimp only;rw[h3];split<;>simp
theorem zjv(ts:List Token)(a b:Nat):subL (tkL ts) (a:Int) (b:Int)=tkL ((ts.take b).drop a):=by unfold Am.subL tkL;rw[Int.toNat_natCast,Int.toNat_natCast,List.map_drop,List.map_take]
theorem zjz{α:Type}(l:List α):subL l 0 (l.length:Int)=l:=by unfold Am.subL;rw[Int.toNat_natCast,List.take_length];rfl
theorem zq8:∀ts:List Token,(Yp (tkL ts)).all zI=true
 |[]=>rfl
 |_::ts=>zq8 ts
theorem zi9{N:Nat}{ts:List Token}(h1:1≤(tkL ts).length)(h2:(tkL ts).length≤100000):zef N (tkL ts)=some (tkL ts):=by
 unfold zef;rw[show Nat.ble 1 (tkL ts).length=true from Nat.ble_eq_true_of_le h1,zm,zq8,Bool.true_and,List.nil_append];have:je 48 (tkL ts).length=true:=by unfold je;simp only[Bool.and_eq_true,Nat.ble_eq];omega
 rw[this,zm]
theorem zni{N:Nat}{s:List AV}:ziq N s=some s:=by unfold ziq;rw[zJ.2 ⟨by omega,by omega,by omega⟩,decide_eq_true rfl,zjz];rfl
theorem zdX{n:Nat}(h:n≤100000):je 48 n=true:=by unfold je;simp only[Bool.and_eq_true,Nat.ble_eq];omega
theorem zaw(k:IntKind):kEq k k=true:=by cases k<;>rfl
mutual
theorem Zl:∀v:AV,jf v v=true
 |.undef=>rfl
 |.int k n=>by simp[jf,zaw]
 |.bool b=>by simp[jf]
 |.str l=>by simp[jf]
 |.nilp=>rfl
 |.nilf=>rfl
 |.nili=>rfl
 |.nilm=>rfl
 |.nils=>rfl
 |.ptr _ _=>by simp[jf]
 |.ep _ _ _ _=>by simp[jf]
 |.rp v=>by simp[jf,Zl v]
 |.rw _=>by simp[jf]
 |.rwp _=>by simp[jf]
 |.rwf _=>by simp[jf]
 |.pos k=>by simp[jf,zaw]
 |.rws _ _ _ _=>by simp[jf]
 |.rwc _ _ _ _=>by simp[jf]
 |.rob _ _=>by simp[jf]
 |.roi _ k _=>by simp[jf,zaw]
 |.ros _ _=>by simp[jf]
 |.rov _ _ l=>by simp[jf,yy l]
 |.fn _ a c=>by simp[jf,yy a,yy c]
 |.fns _ _=>by simp[jf]
 |.agg l=>by simp[jf,yy l]
 |.tup l=>by simp[jf,yy l]
 |.iface _ v=>by simp[jf,Zl v]
 |.map _=>by simp[jf]
theorem yy:∀l:List AV,ya l l=true
 |[]=>rfl
 |a::r=>by simp[ya,Zl a,yy r]
end
theorem znk{α:Type}(v:AV)(x:Option α):chk (jf v v) x=x:=by rw[Zl,zm]
abbrev RA1:Type:=Int×Int×List AV×Int×Int
abbrev RA2:Type:=Int×Int×List AV×Int×Int×List AV×List AV
theorem zqS(x:Option (RA1⊕RA2)):bnd x (Sum.elim (fun rr=>some (.inl (rr.1,rr.2.1,rr.2.2.1,rr.2.2.2.1,rr.2.2.2.2))) (fun rr=>some (.inr (rr.1,rr.2.1,rr.2.2.1,rr.2.2.2.1,rr.2.2.2.2.1,rr.2.2.2.2.2.1,rr.2.2.2.2.2.2))))=x:=by
 cases x with
 |none=>rfl
 |some s=>cases s<;>rfl
section
variable {N : Nat} (hN : 1000 < N) {n m : Nat} (hnm : 2 * n + 2 * m + 1 ≤ 900) {low : LT}
def zjl(n m at_:Nat):Prop:=at_=2*n+2*m+1∨(tks n m)[at_]? =some RP
def okR(n m at_ d:Nat)(nd lv:List AV):RA1⊕RA2:=.inr (0,0,tkL (tks n m),(at_:Int),(d:Int),nd,lv)
def erR(n m at_ d:Nat):RA1⊕RA2:=.inl (0,3,tkL (tks n m),(at_:Int),(d:Int))
include hN
theorem Ku{i d:Nat}(h:isT (tks n m) i 5 [[43],[45]]=false):Zo low N (tkL (tks n m)) (i:Int) (d:Int)=yn low N (tkL (tks n m)) (i:Int) (d:Int):=by unfold Zo;rw[qk (by simp) (by simp;omega),h,zG,cond_false];exact zqS _
theorem zjb{i d at_ d':Nat}{nd lv:List AV}(hs:zjl n m at_)(h:Zo low N (tkL (tks n m)) (i:Int) (d:Int)=some (okR n m at_ d' nd lv)):JM low N (tkL (tks n m)) (i:Int) (d:Int)=some (okR n m at_ d' nd lv):=by
 obtain⟨k,hk⟩:∃k,N=k+1:=⟨N-1,by omega⟩
 unfold JM;rw[h,zG];show z1 low N N (okR n m at_ d' nd lv)=_;have step:∀q,q=k+1→z1 low N q (okR n m at_ d' nd lv)=qS low N (z1 low N k) 0 0 (tkL (tks n m)) (at_:Int) (d':Int) nd lv:=by rintro q rfl;rfl
 rw[step N hk];unfold qS;rw[decide_eq_true rfl,cond_true];rcases hs with rfl|hr
 ·rw[decide_eq_false (by rw[zT,JI];omega),cond_false];rfl
 ·have hlt:=(List.getElem?_eq_some_iff.1 hr).1;have hk:=zbr hr;unfold zew at hk;rw[decide_eq_true (by rw[zT];omega),cond_true,hk,zm,zm,Yw hr];rfl
theorem zjf{i d at_ d':Nat}{nd lv:List AV}(hs:zjl n m at_)(h:Zp low N (tkL (tks n m)) (i:Int) (d:Int)=some (okR n m at_ d' nd lv)):JO low N (tkL (tks n m)) (i:Int) (d:Int)=some (okR n m at_ d' nd lv):=by
 obtain⟨k,hk⟩:∃k,N=k+1:=⟨N-1,by omega⟩
 unfold JO;rw[h,zG];show zQ low N N (okR n m at_ d' nd lv)=_;have step:∀q,q=k+1→zQ low N q (okR n m at_ d' nd lv)=qU low N (zQ low N k) 0 0 (tkL (tks n m)) (at_:Int) (d':Int) nd lv:=by rintro q rfl;rfl
 rw[step N hk];unfold qU;rw[decide_eq_true rfl,cond_true];rcases hs with rfl|hr
 ·rw[decide_eq_false (by rw[zT,JI];omega),cond_false];rfl
 ·have hlt:=(List.getElem?_eq_some_iff.1 hr).1;have hk:=zbr hr;unfold zew at hk;rw[decide_eq_true (by rw[zT];omega),cond_true,hk,zm,zm,Yw hr];rfl
theorem zjd{i d at_ d':Nat}{nd lv:List AV}(hs:zjl n m at_)(h:ym low N (tkL (tks n m)) (i:Int) (d:Int)=some (okR n m at_ d' nd lv)):JN low N (tkL (tks n m)) (i:Int) (d:Int)=some (okR n m at_ d' nd lv):=by
 obtain⟨k,hk⟩:∃k,N=k+1:=⟨N-1,by omega⟩
 unfold JN;rw[h,zG];show zP low N N (okR n m at_ d' nd lv)=_;have step:∀q,q=k+1→zP low N q (okR n m at_ d' nd lv)=qT low N (zP low N k) 0 0 (tkL (tks n m)) (at_:Int) (d':Int) nd lv:=by rintro q rfl;rfl
 rw[step N hk];unfold qT;rw[decide_eq_true rfl,cond_true];rcases hs with rfl|hr
 ·rw[decide_eq_false (by rw[zT,JI];omega),cond_false];rfl
 ·have hlt:=(List.getElem?_eq_some_iff.1 hr).1;have hk:=zbr hr;unfold zew at hk;rw[decide_eq_true (by rw[zT];omega),cond_true,hk,zm,zm,Yw hr];rfl
theorem zjc{i d at_ d':Nat}(h:Zo low N (tkL (tks n m)) (i:Int) (d:Int)=some (erR n m at_ d')):JM low N (tkL (tks n m)) (i:Int) (d:Int)=some (erR n m at_ d'):=by
 obtain⟨k,hk⟩:∃k,N=k+1:=⟨N-1,by omega⟩
 unfold JM;rw[h,zG];show z1 low N N (erR n m at_ d')=_;have step:∀q,q=k+1→z1 low N q (erR n m at_ d')=some (erR n m at_ d'):=by rintro q rfl;rfl
 exact step N hk
theorem zjg{i d at_ d':Nat}(h:Zp low N (tkL (tks n m)) (i:Int) (d:Int)=some (erR n m at_ d')):JO low N (tkL (tks n m)) (i:Int) (d:Int)=some (erR n m at_ d'):=by
 obtain⟨k,hk⟩:∃k,N=k+1:=⟨N-1,by omega⟩
 unfold JO;rw[h,zG];show zQ low N N (erR n m at_ d')=_;have step:∀q,q=k+1→zQ low N q (erR n m at_ d')=some (erR n m at_ d'):=by rintro q rfl;rfl
 exact step N hk
theorem zje{i d at_ d':Nat}(h:ym low N (tkL (tks n m)) (i:Int) (d:Int)=some (erR n m at_ d')):JN low N (tkL (tks n m)) (i:Int) (d:Int)=some (erR n m at_ d'):=by
 obtain⟨k,hk⟩:∃k,N=k+1:=⟨N-1,by omega⟩
 unfold JN;rw[h,zG];show zP low N N (erR n m at_ d')=_;have step:∀q,q=k+1→zP low N q (erR n m at_ d')=some (erR n m at_ d'):=by rintro q rfl;rfl
 exact step N hk
theorem zrn{i d at_ d':Nat}{nd lv:List AV}(hs:zjl n m at_)(h0:isT (tks n m) i 5 [[43],[45]]=false)(h:yn low N (tkL (tks n m)) (i:Int) (d:Int)=some (okR n m at_ d' nd lv)):zeR low N (tkL (tks n m)) (i:Int) (d:Int)=some (okR n m at_ d' nd lv):=by
 have h1:=zjb hN hs ((Ku hN h0).trans h);have h2:Zp low N (tkL (tks n m)) (i:Int) (d:Int)=some (okR n m at_ d' nd lv):=by unfold Zp;rw[h1];rfl
 have h3:=zjf hN hs h2;have h4:ym low N (tkL (tks n m)) (i:Int) (d:Int)=some (okR n m at_ d' nd lv):=by unfold ym;rw[h3];rfl
 have h5:=zjd hN hs h4;unfold zeR;rw[h5];rfl
theorem zro{i d at_ d':Nat}(h0:isT (tks n m) i 5 [[43],[45]]=false)(h:yn low N (tkL (tks n m)) (i:Int) (d:Int)=some (erR n m at_ d')):zeR low N (tkL (tks n m)) (i:Int) (d:Int)=some (erR n m at_ d'):=by
 have h1:=zjc hN ((Ku hN h0).trans h);have h2:Zp low N (tkL (tks n m)) (i:Int) (d:Int)=some (erR n m at_ d'):=by unfold Zp;rw[h1];rfl
 have h3:=zjg hN h2;have h4:ym low N (tkL (tks n m)) (i:Int) (d:Int)=some (erR n m at_ d'):=by unfold ym;rw[h3];rfl
 have h5:=zje hN h4;unfold zeR;rw[h5];rfl
def ND:List AV:=[.agg [.int .u8 1,.int .i64 0,.int .i64 0]]
def LV(n m:Nat):List AV:=[.rov true 5 (tkL ((tks n m).take (n+(1+2*m))|>.drop n))]
include hnm
theorem zqw(d:Nat):yn low N (tkL (tks n m)) (n:Int) (d:Int)=some (okR n m (n+(1+2*m)) d ND (LV n m)):=by
 have hL:=JI n m;have hlp:isT (tks n m) n 5 [[40]]=false:=by unfold isT;rw[zju];rfl
 have hop:=(zeC (N:=N) (by omega) (ts:=AA::inn n m) (by simp[WF];omega) (by simp[WF];omega) (fun t ht=>zrm n m t (by unfold tks;simp only[List.mem_append];exact .inr ht))).1;rw[zsm]at hop;have e1:subL (tkL (tks n m)) (n:Int) ((tkL (tks n m)).length:Int)=tkL (AA::inn n m):=by rw[zjv,zT,List.take_length,zev]
 have hx:(((tks n m).take (n+(1+2*m))).drop n).length=1+2*m:=by rw[List.length_drop,List.length_take,hL];omega
 unfold yn;rw[qk (by simp) (by simp;omega),hlp,zG,Bool.not_false,cond_true,zJ.2 ⟨by omega,by rw[zT,hL];omega,by omega⟩,zm,e1,hop,zG];dsimp only;rw[decide_eq_true rfl,Bool.not_true,cond_false,qb (by omega) (by omega),zm,zJ.2 ⟨by omega,by omega,by rw[zT,hL];omega⟩,zm,show(n:Int)+((1+2*m:Nat):Int)=((n+(1+2*m):Nat):Int)by omega,zjv,
  zi9 (by rw[zT,hx];omega) (by rw[zT,hx];omega),zG,zni,zG]
 rfl
theorem zmw{i at_:Nat}{nd lv:List AV}(hi:i<n)(hi32:i<32)(ha:at_<2*n+2*m+1)(hr:(tks n m)[at_]? =some RP)(h:low (tkL (tks n m),((i+1:Nat):Int),((i+1:Nat):Int))=some (okR n m at_ (i+1) nd lv)):
  yn low N (tkL (tks n m)) (i:Int) (i:Int)=some (okR n m (at_+1) i nd lv):=by
 have hlp:isT (tks n m) i 5 [[40]]=true:=by unfold isT;rw[zcf hi];rfl
 have hrp:isT (tks n m) at_ 5 [[41]]=true:=by unfold isT;rw[hr];rfl
 unfold yn;rw[qk (by simp) (by simp;omega),hlp,zG,Bool.not_true,cond_false,decide_eq_false (show¬(i:Int)=32 by omega),cond_false,qb (by omega) (by omega),zm,zm];rw[show low (tkL (tks n m),(i:Int)+1,(i:Int)+1)=some (okR n m at_ (i+1) nd lv)from h,zG];show qB low N 0 0 (tkL (tks n m)) (at_:Int) ((i+1:Nat):Int) nd lv=_;unfold qB;rw[qb (by omega) (by omega),zm,decide_eq_true rfl,Bool.not_true,cond_false,qk (by simp) (by simp;omega),hrp,zG,Bool.not_true,cond_false,qb (by omega) (by omega),zm];unfold okR;rw[show((i+1:Nat):Int)-1=(i:Int)by omega,show(at_:Int)+1=((at_+1:Nat):Int)by omega]
omit hnm in
theorem ziK{i at_:Nat}(hi:i<n)(hi32:i<32)(h:low (tkL (tks n m),((i+1:Nat):Int),((i+1:Nat):Int))=some (erR n m at_ (i+1))):
  yn low N (tkL (tks n m)) (i:Int) (i:Int)=some (erR n m at_ i):=by
 have hlp:isT (tks n m) i 5 [[40]]=true:=by unfold isT;rw[zcf hi];rfl
 unfold yn;rw[qk (by simp) (by simp;omega),hlp,zG,Bool.not_true,cond_false,decide_eq_false (show¬(i:Int)=32 by omega),cond_false,qb (by omega) (by omega),zm,zm];rw[show low (tkL (tks n m),(i:Int)+1,(i:Int)+1)=some (erR n m at_ (i+1))from h,zG];show JL low N 0 3 (tkL (tks n m)) (at_:Int) ((i+1:Nat):Int)=_;unfold JL;rw[qb (by omega) (by omega),zm,show(!decide ((3:Int)=0))=true from rfl,cond_true];unfold erR;rw[show((i+1:Nat):Int)-1=(i:Int)by omega]
omit hnm in
theorem zmx(h:32<n):yn low N (tkL (tks n m)) ((32:Nat):Int) ((32:Nat):Int)=some (erR n m 32 32):=by
 have hlp:isT (tks n m) 32 5 [[40]]=true:=by unfold isT;rw[zcf h];rfl
 unfold yn;rw[qk (by simp) (by simp;omega),hlp,zG,Bool.not_true,cond_false,decide_eq_true (show((32:Nat):Int)=32 from rfl),cond_true];rfl
omit hnm hN in
theorem zmC{i:Nat}(h:i≤n):isT (tks n m) i 5 [[43],[45]]=false:=by
 unfold isT;by_cases h1:i<n
 ·rw[zcf h1];rfl
 ·obtain rfl:i=n:=by omega
  rw[zju];rfl
theorem zg8(h32:n≤32):∀(k i:Nat),i≤n→n-i<k→WP N k (tkL (tks n m),(i:Int),(i:Int))=some (okR n m (n+(1+2*m)+(n-i)) i ND (LV n m))
 |0,_,_,h=>by omega
 |k+1,i,hi,hk=>by
  have hstop:zjl n m (n+(1+2*m)+(n-i)):=by
   by_cases h0:i=0
   ·exact .inl (by omega)
   ·exact .inr (zjt (by omega) (by omega))
  show zeR (WP N k) N (tkL (tks n m)) (i:Int) (i:Int)=_;refine zrn hN hstop (zmC hi) ?_;by_cases h:i<n
  ·have ih:=zg8 h32 k (i+1) (by omega) (by omega);have:=zmw hN hnm h (by omega) (by omega) (zjt (by omega) (by omega)) ih;rw[show n+(1+2*m)+(n-(i+1))+1=n+(1+2*m)+(n-i)by omega]at this;exact this
  ·obtain rfl:i=n:=by omega
   rw[Nat.sub_self,Nat.add_zero];exact zqw hN hnm i
omit hnm in
theorem zg9(h32:32<n):∀(k i:Nat),i≤32→32-i<k→WP N k (tkL (tks n m),(i:Int),(i:Int))=some (erR n m 32 i)
 |0,_,_,h=>by omega
 |k+1,i,hi,hk=>by
  show zeR (WP N k) N (tkL (tks n m)) (i:Int) (i:Int)=_;refine zro hN (zmC (by omega)) ?_;by_cases h:i<32
  ·exact ziK hN (by omega) h (zg9 h32 k (i+1) (by omega) (by omega))
  ·obtain rfl:i=32:=by omega
   exact zmx hN h32
theorem zmy(h32:n≤32):YA N (tkL (tks n m))=some (ND,LV n m,0):=by
 have h:=zg8 hN hnm h32 40 0 (by omega) (by omega);have h:WP N 40 (tkL (tks n m),0,0)=some (okR n m (n+(1+2*m)+(n-0)) 0 ND (LV n m)):=h;have h1:XR N (tkL (tks n m))=some (ND,LV n m,((n+(1+2*m)+(n-0):Nat):Int),0):=by unfold XR;rw[h,zG];show qA N 0 (tkL (tks n m)) ((n+(1+2*m)+(n-0):Nat):Int) 0 ND (LV n m)=_;unfold qA;simp only[znk];rfl
 unfold YA;rw[h1,zG];dsimp only;rw[decide_eq_true rfl,Bool.not_true,cond_false,decide_eq_false (by rw[zT,JI];omega),cond_false]
theorem zmz(h32:32<n):YA N (tkL (tks n m))=some ([],[],3):=by
 have _:=hnm;have h:=zg9 (m:=m) hN h32 40 0 (by omega) (by omega);have h:WP N 40 (tkL (tks n m),0,0)=some (erR n m 32 0):=h;have h1:XR N (tkL (tks n m))=some ([],[],0,3):=by unfold XR;rw[h];rfl
 unfold YA;rw[h1];rfl
end
theorem KV(ts:List Token)(t:Token):tkL (ts++[t])=tkL ts++[tkV t]:=by simp[tkL]
section
variable {N : Nat} (hN : 1000 < N) {n m : Nat} (hn : n < 40) (hm : m < 50) {inner : Int} (h0 : 0 ≤ inner) (hi : inner % 50 = (m : Int))
include hN hn hm h0 hi
theorem zic:∀(k i:Nat),i≤m+n→m+n-i<k→qo N k inner (n:Int) (i:Int) (tkL (List.replicate n LP++AA::(List.replicate m LP++List.replicate i RP)))=some true
 |0,_,_,h=>by omega
 |k+1,i,hle,hk=>by
  show ZE N (qo N k) inner (n:Int) (i:Int) _=_;unfold ZE;rw[show yp inner=true from decide_eq_true h0,hi,show(true&&decide (0<50))=true from rfl,zm,qb (by omega) (by omega),zm,qb (by omega) (by omega),zm];by_cases h:i<m+n
  ·rw[decide_eq_true (show(i:Int)<(m:Int)+(n:Int)by omega),cond_true,show yq N 5 [41]=some RP from rfl,zG];have e:tkL (List.replicate n LP++AA::(List.replicate m LP++List.replicate i RP))++[tkV RP]=tkL (List.replicate n LP++AA::(List.replicate m LP++List.replicate (i+1) RP)):=by rw[←KV,List.replicate_succ'];simp
   have e:tkL (List.replicate n LP++AA::(List.replicate m LP++List.replicate i RP))++[.agg [.int .u8 RP.Kind,.str RP.Text,.int .i64 RP.At_Line,.int .i64 RP.At_Column,.bool RP.Left]]=_:=e;rw[e,zdX (by rw[zT];simp;omega),zm,qb (by omega) (by omega),zm];exact zic k (i+1) (by omega) (by omega)
  ·obtain rfl:i=m+n:=by omega
   rw[decide_eq_false (show¬((m+n:Nat):Int)<(m:Int)+(n:Int)by omega),cond_false];show bnd (YA N (tkL (tks n m))) _=_;by_cases h32:n≤32
   ·rw[zmy hN (by omega) h32,zG,decide_eq_false (show¬(32:Int)<(n:Int)by omega),cond_false];dsimp only;have e:((zl4 (atV (LV n m) 0)).length:Int)=1+2*(m:Int):=by show((tkL (((tks n m).take (n+(1+2*m))).drop n)).length:Int)=_;rw[zT,List.length_drop,List.length_take,JI];omega
    rw[decide_eq_true rfl,cond_true,show decide ((ND.length:Int)=1)=true from rfl,cond_true,show decide (((LV n m).length:Int)=1)=true from rfl,cond_true,show(zZ 0 (LV n m).length&&zax 5 (atV (LV n m) 0))=true from rfl,zm,
     zm,zm,qb (by omega) (by omega),zm,qb (by omega) (by omega),zm,e,decide_eq_true rfl,cond_true]
   ·rw[zmz hN (by omega) (by omega),zG,decide_eq_true (show(32:Int)<(n:Int)by omega),cond_true];rfl
theorem zid:∀(k i:Nat),i≤m→m-i<k→yE N k inner (n:Int) (i:Int) (tkL (List.replicate n LP++AA::List.replicate i LP))=some true
 |0,_,_,h=>by omega
 |k+1,i,hle,hk=>by
  show ZF N (yE N k) inner (n:Int) (i:Int) _=_;unfold ZF;rw[show yp inner=true from decide_eq_true h0,hi,show(true&&decide (0<50))=true from rfl,zm,qb (by omega) (by omega),zm];by_cases h:i<m
  ·rw[decide_eq_true (show(i:Int)<(m:Int)by omega),cond_true,show yq N 5 [40]=some LP from rfl,zG];have e:tkL (List.replicate n LP++AA::List.replicate i LP)++[tkV LP]=tkL (List.replicate n LP++AA::List.replicate (i+1) LP):=by rw[←KV,List.replicate_succ'];simp
   have e:tkL (List.replicate n LP++AA::List.replicate i LP)++[.agg [.int .u8 LP.Kind,.str LP.Text,.int .i64 LP.At_Line,.int .i64 LP.At_Column,.bool LP.Left]]=_:=e;rw[e,zdX (by rw[zT];simp;omega),zm,qb (by omega) (by omega),zm];exact zid k (i+1) (by omega) (by omega)
  ·obtain rfl:i=m:=by omega
   rw[decide_eq_false (show¬(i:Int)<(i:Int)by omega),cond_false];have:=zic hN hn hm h0 hi N 0 (by omega) (by omega);rw[List.replicate_zero,List.append_nil]at this;exact this
theorem ziX:y8 N inner (n:Int) (tkL (List.replicate n LP))=some true:=by
 unfold y8;rw[show yq N 1 [65]=some AA from rfl,zG];have e:tkL (List.replicate n LP)++[tkV AA]=tkL (List.replicate n LP++AA::List.replicate 0 LP):=by rw[←KV];rfl
 have e:tkL (List.replicate n LP)++[.agg [.int .u8 AA.Kind,.str AA.Text,.int .i64 AA.At_Line,.int .i64 AA.At_Column,.bool AA.Left]]=_:=e;rw[e,zdX (by rw[zT];simp;omega),zm];exact zid hN hn hm h0 hi N 0 (by omega) (by omega)
theorem zib:∀(k i:Nat),i≤n→n-i<k→jp N k (.inr (inner,(n:Int),(i:Int),tkL (List.replicate i LP)))=some true
 |0,_,_,h=>by omega
 |k+1,i,hle,hk=>by
  show j7 N (jp N k) inner (n:Int) (i:Int) _=_;unfold j7;by_cases h:i<n
  ·rw[decide_eq_true (show(i:Int)<(n:Int)by omega),cond_true,show yq N 5 [40]=some LP from rfl,zG];have e:tkL (List.replicate i LP)++[tkV LP]=tkL (List.replicate (i+1) LP):=by rw[←KV,List.replicate_succ']
   have e:tkL (List.replicate i LP)++[.agg [.int .u8 LP.Kind,.str LP.Text,.int .i64 LP.At_Line,.int .i64 LP.At_Column,.bool LP.Left]]=_:=e;rw[e,zdX (by rw[zT];simp;omega),zm,qb (by omega) (by omega),zm];exact zib k (i+1) (by omega) (by omega)
  ·obtain rfl:i=n:=by omega
   rw[decide_eq_false (show¬(i:Int)<(i:Int)by omega),cond_false];exact ziX hN hn hm h0 hi
theorem zmP:jp N N (.inl (inner,(n:Int),0))=some true:=by
 obtain⟨k,hk⟩:∃k,N=k+1:=⟨N-1,by omega⟩
 have step:∀q,q=k+1→jp N q (.inl (inner,(n:Int),0))=jp N q (.inr (inner,(n:Int),((0:Nat):Int),tkL (List.replicate 0 LP))):=by
  rintro q rfl;show q6 N (jp N k) inner (n:Int) 0=j7 N (jp N k) inner (n:Int) 0 [];unfold q6 j7;cases hd:decide ((0:Int)<(n:Int))with
  |true=>rfl
  |false=>rfl
 rw[step N hk];exact zib hN hn hm h0 hi N 0 (by omega) (by omega)
end
theorem zdP(x y:Int)(hx:0≤x)(hy:0≤y):∃N,y9 N x y=some true:=by
 refine⟨2000,?_⟩;obtain⟨n,hn⟩:∃n:Nat,x%40=(n:Int):=⟨(x%40).toNat,by omega⟩
 obtain⟨m,hm⟩:∃m:Nat,y%50=(m:Int):=⟨(y%50).toNat,by omega⟩
 unfold y9;rw[show yp x=true from decide_eq_true hx,hn,show(true&&decide (0<40))=true from rfl,zm,qb (by omega) (by omega),zm];exact zmP (N:=2000) (n:=n) (m:=m) (by omega) (by omega) (by omega) hy hm
end Go.Proofs.C06
end
