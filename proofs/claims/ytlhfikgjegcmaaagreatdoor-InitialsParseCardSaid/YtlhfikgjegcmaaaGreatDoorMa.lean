/-
  A part of the proof of the laws.
-/
import Derived.Test.YtlhfikgjegcmaaaGreatDoorCi
section
set_option maxRecDepth 100000
namespace Go.Proofs.C06
open Go Go.RowKit Go.Vc Go.Am
theorem yT{n:Int}(h1: -9223372036854775808<=n)(h2:n<=9223372036854775807):zj .i64 n=true:=
 JF.2 ⟨h1,h2⟩
def tkV(t:Token):AV:=.agg [.int .u8 t.uB,.str t.uA,.int .i64 t.uC,.int .i64 t.uD,.bool t.uE]
def tkL(ts:List Token):List AV:=ts.map tkV
theorem zu(ts:List Token):(tkL ts).length=ts.length:=by simp[tkL]
theorem qh(a b:List Token):tkL (a++b)=tkL a++tkL b:=by simp[tkL]
theorem zcD(L:List AV)(m:Nat):atV L (m:Int)=L.getD m .undef:=by unfold atV;rw[xU]
theorem Qu{ts:List Token}{i:Nat}{t:Token}(h:ts[i]? =some t):atV (tkL ts) (i:Int)=tkV t:=by rw[zcD,wU,tkL,xJ,h];rfl
theorem zjN{ts:List Token}{i:Nat}{t:Token}(h:ts[i]? =some t):zF (i:Int) (tkL ts).length=true:=by have:=(wM.1 h).1;rw[zu];exact zG.2 ⟨by omega,by omega⟩
def zbi(l:List AV)(i:Int):Bool:=zF i (l).length&&(yl (atV l i) 5&&(zd .u8 (za (atV l i) 0)&&(yh (za (atV l i) 1)&&(zd .i64 (za (atV l i) 2)&&(zd .i64 (za (atV l i) 3)&&(jq (za (atV l i) 4)&&true))))))
theorem V3{ts:List Token}{i:Nat}{t:Token}(h:ts[i]? =some t):zbi (tkL ts) (i:Int)=true:=by unfold zbi;rw[zjN h,Qu h];rfl
theorem V9{N:Nat}{s:List mQ}{v:mQ}(hs:s.length<=1000):∀(k i:Nat),i<=s.length->s.length-i<k->
  ∃r:Int,YR N k s v (s.length:Int) (i:Int)=some r/\(0<=r↔v∈s.drop i)
 |0,i,_,h=>by omega
 |k+1,i,hi,hk=>by
  show∃r:Int,QA N (YR N k) s v (s.length:Int) (i:Int)=some r/\_;unfold QA;by_cases h:i<s.length
  ·have e:atS s (i:Int)=s[i]:=by unfold atS;rw[xU,wU,wO h];rfl
   rw[decide_eq_true (show(i:Int)<(s.length:Int)by omega),cond_true,zG.2 ⟨by omega,by omega⟩,zb,e];by_cases hv:v=s[i]
   ·rw[decide_eq_true hv,cond_true];exact⟨i,rfl,fun _=>by rw[kK h,hv];exact xO,fun _=>by omega⟩
   ·rw[decide_eq_false hv,cond_false,yT (by omega) (by omega),zb];obtain⟨r,h1,h2⟩:=V9 hs k (i+1) (by omega) (by omega);exact⟨r,h1,by rw[h2,kK h,xC];simp[hv]⟩
  ·rw[decide_eq_false (show¬(i:Int)<(s.length:Int)by omega),cond_false];exact⟨-1,rfl,by rw[List.drop_of_length_le (by omega)];simp⟩
theorem zfC{N:Nat}{s:List mQ}{v:mQ}(hs:s.length<=1000)(hN:s.length<N):zbs N s v=some (decide (v∈s)):=by unfold zbs zi5;obtain⟨r,h1,h2⟩:=V9 (N:=N) (v:=v) hs N 0 (by omega) (by omega);rw[show((0:Int))=((0:Nat):Int)from rfl,h1,zP];exact congrArg some (decide_eq_decide.2 h2)
def isT(ts:List Token)(i:Nat)(k:Int)(w:List mQ):Bool:=match ts[i]? with
 |some t=>decide (t.uB=k)&&decide (t.uA∈w)
 |none=>false
theorem KF{N:Nat}{ts:List Token}{i:Nat}{k:Int}{w:List mQ}(hw:w.length<=1000)(hN:w.length<N):sIs N (tkL ts) (i:Int) k w=some (isT ts i k w):=by
 unfold sIs isT;cases h:ts[i]? with
 |none=>have:=List.getElem?_eq_none_iff.1 h;rw[decide_eq_false (by rw[zu];omega),cond_false]
 |some t=>
  have hlt:=(wM.1 h).1;have hk:=V3 h;unfold zbi at hk;rw[decide_eq_true (by rw[zu];omega),cond_true,hk,zb,zb,Qu h];show cond (decide (t.uB=k)) (bnd (zbs N w t.uA) fun rr=>some rr) (some false)=_;rw[zfC hw hN,zP];dsimp only;by_cases hkk:t.uB=k
  ·rw[decide_eq_true hkk,cond_true,mJ]
  ·rw[decide_eq_false hkk,cond_false,Bool.false_and]
def Wd(t:Token):Prop:=t.uB=1->XI t.uA qi=true
def nmT(ts:List Token)(i:Nat):Bool:=match ts[i]? with
 |some t=>decide (t.uB=1)&&decide (Zc t.uA yH=0)
 |none=>false
theorem XS{s:mQ}(h:XI s qi=true):VL s=some (Zc s yH):=by unfold VL;rw[h,zb]
theorem zbp{N:Nat}{ts:List Token}{i:Nat}(hw:∀t∈ts,Wd t):zbq N (tkL ts) (i:Int)=some (nmT ts i):=by
 unfold zbq nmT;cases h:ts[i]? with
 |none=>have:=List.getElem?_eq_none_iff.1 h;rw[decide_eq_false (by rw[zu];omega),cond_false]
 |some t=>
  have hlt:=(wM.1 h).1;have hk:=V3 h;unfold zbi at hk;rw[decide_eq_true (by rw[zu];omega),cond_true,hk,zb,zb,Qu h];show cond (decide (t.uB=1)) (bnd (VL t.uA) fun rr=>some (decide (rr=0))) (some false)=_;by_cases hkk:t.uB=1
  ·rw[decide_eq_true hkk,cond_true,XS (hw t (xN h) hkk),zP];simp[hkk]
  ·rw[decide_eq_false hkk,cond_false];simp[hkk]
def isP(t:Token)(c:UInt8):Bool:=decide (t.uB=5)&&decide (t.uA=[c])
def dep(t:Token)(d:Int):Int:=if isP t 40 then d+1 else if isP t 41 then d-1 else d
def prt(t:Token)(d:Int)(p:Bool):Bool:=if isP t 40 then p else if isP t 41 then p else if isP t 58&&decide (d=1)then true else p
def K9:List Token->Int->Bool->Nat->Nat×Bool
 |[],_,_,_=>(0,false)
 |t::r,d,p,n=>if dep t d=0 then(n+1,prt t d p)else K9 r (dep t d) (prt t d p) (n+1)
def grp(ts:List Token)(i:Nat):Nat×Bool:=if isT ts i 5 [[40]]then K9 (ts.drop i) 0 false 0 else(0,false)
theorem grpL_le:∀(r:List Token)(d:Int)(p:Bool)(n:Nat),(K9 r d p n).1=0\/(n<(K9 r d p n).1/\(K9 r d p n).1<=n+r.length)
 |[],_,_,_=>.inl rfl
 |t::r,d,p,n=>by
  unfold K9;split
  ·exact .inr ⟨by dsimp only;omega,by simp⟩
  ·rcases grpL_le r (dep t d) (prt t d p) (n+1)with h|⟨h1,h2⟩
   ·exact .inl h
   ·exact .inr ⟨by omega,by rw[wY];omega⟩
theorem zaI(ts:List Token)(i:Nat)(_hi:i<=ts.length):(grp ts i).1<=ts.length-i:=by
 unfold grp;split
 ·rcases grpL_le (ts.drop i) 0 false 0 with h|⟨_,h2⟩
  ·omega
  ·rw[wV]at h2;omega
 ·exact kP _
theorem zgo{ts:List Token}{i:Nat}{t:Token}(h:ts[i]? =some t)(c:UInt8):isT ts i 5 [[c]]=isP t c:=by unfold isT isP;rw[h];simp
theorem Jk{N:Nat}(hN:1<N){ts:List Token}(hl:ts.length<=1000){i:Nat}:∀(k j:Nat)(d:Int)(p:Bool),i<=j->j<=ts.length->ts.length-j<k-> -(j:Int)<=d->d<=(j:Int)->
  y7 N k (tkL ts) (i:Int) d p (j:Int)=some ((((K9 (ts.drop j) d p (j-i)).1:Nat):Int),(K9 (ts.drop j) d p (j-i)).2)
 |0,j,_,_,_,_,h,_,_=>by omega
 |k+1,j,d,p,hij,hj,hk,h1,h2=>by
  show Jl N (y7 N k) (tkL ts) (i:Int) d p (j:Int)=_;unfold Jl;by_cases h:j<ts.length
  ·have hg:ts[j]? =some ts[j]:=wO h;rw[decide_eq_true (by rw[zu];omega),cond_true,KF (by simp) hN,zP,KF (by simp) hN,zP,KF (by simp) hN,zP,zgo hg,zgo hg,zgo hg];rw[kK h];generalize ts[j]=t;have fin:∀(d':Int)(p':Bool),d'=dep t d->p'=prt t d p->yB N (y7 N k) (tkL ts) (i:Int) d' p' (j:Int)=
     some ((((K9 (t::ts.drop (j+1)) d p (j-i)).1:Nat):Int),(K9 (t::ts.drop (j+1)) d p (j-i)).2):=by
    intro d' p' hd hp;have hb: -(j:Int)-1<=d'/\d'<=(j:Int)+1:=by rw[hd];unfold dep;(repeat' split)<;>omega
    unfold yB K9;rw[<-hd,<-hp,yT (by omega) (by omega)];by_cases h0:d'=0
    ·rw[decide_eq_true h0,cond_true,if_pos h0,zb,yT (by omega) (by omega),zb];refine congrArg some (Prod.ext ?_ rfl);dsimp only;omega
    ·rw[decide_eq_false h0,cond_false,if_neg h0,zb];have:=Jk hN hl (i:=i) k (j+1) d' p' (by omega) (by omega) (by omega) (by omega) (by omega);rw[show j+1-i=j-i+1 by omega]at this;exact this
   cases ha:isP t 40 with
   |true=>rw[cond_true,yT (by omega) (by omega),zb];exact fin _ _ (by unfold dep;rw[ha];rfl) (by unfold prt;rw[ha];rfl)
   |false=>
    rw[cond_false];cases hb:isP t 41 with
    |true=>rw[cond_true,yT (by omega) (by omega),zb];exact fin _ _ (by unfold dep;rw[ha,hb];rfl) (by unfold prt;rw[ha,hb];rfl)
    |false=>
     rw[cond_false];have hd:d=dep t d:=by unfold dep;rw[ha,hb];rfl
     cases hc:isP t 58 with
     |true=>
      rw[cond_true];by_cases h1:d=1
      ·rw[decide_eq_true h1,cond_true];exact fin _ _ hd (by unfold prt;rw[ha,hb,hc,decide_eq_true h1];rfl)
      ·rw[decide_eq_false h1,cond_false];exact fin _ _ hd (by unfold prt;rw[ha,hb,hc,decide_eq_false h1];rfl)
     |false=>rw[cond_false];exact fin _ _ hd (by unfold prt;rw[ha,hb,hc];rfl)
  ·rw[decide_eq_false (by rw[zu];omega),cond_false,List.drop_of_length_le (by omega)];rfl
theorem Wa{N:Nat}(hN:1<N){ts:List Token}(hl:ts.length<=1000)(hN2:ts.length<N){i:Nat}(hi:i<=ts.length):KG N (tkL ts) (i:Int)=some (((grp ts i).1:Int),(grp ts i).2):=by
 unfold KG grp;rw[KF (by simp) hN,zP];cases isT ts i 5 [[40]]with
 |false=>rfl
 |true=>
  rw[kG,cond_false,if_pos rfl];by_cases h0:i=0
  ·subst h0;exact Jk hN hl N 0 0 false (wP _) hi (by omega) (by omega) (by omega)
  ·have:=Jk hN hl (i:=i) N i 0 false (wP _) hi (by omega) (by omega) (by omega);rw[Nat.sub_self]at this;exact this
def ofN(ts:List Token):Nat->Nat->Nat
 |0,n=>n
 |k+1,n=>if isT ts n 1 [[79,70],[73,78]]&&nmT ts (n+1)then ofN ts k (n+2)else n
def opG(ts:List Token)(n:Nat):Nat:=if 0<(grp ts n).1/\(grp ts n).2=false then(if(grp ts (n+(grp ts n).1)).2 then n+(grp ts n).1+(grp ts (n+(grp ts n).1)).1 else n+(grp ts n).1)else n+(grp ts n).1
def opd(ts:List Token):Nat×Int:=
 if nmT ts 0 then(opG ts (ofN ts ts.length 1),0)
 else match ts[0]? with
  |none=>(0,4)
  |some t=>if t.uB=2\/t.uB=3\/(t.uB=1/\Zc t.uA yH=3)then(1,0)else(0,4)
theorem zfX{ts:List Token}{i:Nat}(h:nmT ts i=true):i<ts.length:=by
 unfold nmT at h;split at h
 ·rename_i t ht;exact (wM.1 ht).1
 ·cases h
theorem zjo{ts:List Token}{n:Nat}(h1:1<=n)(hn:n<=ts.length):1<=opG ts n/\opG ts n<=ts.length:=by
 have g1:=zaI ts n hn;have g2:=zaI ts (n+(grp ts n).1) (by omega);unfold opG;split
 ·split<;>omega
 ·omega
theorem Yd{N:Nat}(hN:1<N){ts:List Token}(hl:ts.length<=1000)(hN2:ts.length<N){n:Nat}(hn:n<=ts.length):qo N (tkL ts) (n:Int)=some ((opG ts n:Int),0):=by
 have g1:=zaI ts n hn;have g2:=zaI ts (n+(grp ts n).1) (by omega);unfold qo;rw[Wa hN hl hN2 hn,zP];dsimp only;rw[yT (by omega) (by omega),zb,show(n:Int)+((grp ts n).1:Int)=((n+(grp ts n).1:Nat):Int)by omega];have k1:∀b:Bool,qn N (tkL ts) ((n+(grp ts n).1:Nat):Int) b=some (((if b=true then(if(grp ts (n+(grp ts n).1)).2 then n+(grp ts n).1+(grp ts (n+(grp ts n).1)).1 else n+(grp ts n).1)else n+(grp ts n).1:Nat):Int),0):=by
  intro b;unfold qn;cases b with
  |false=>rw[cond_false,if_neg (by simp)]
  |true=>
   rw[cond_true,if_pos rfl,Wa hN hl hN2 (by omega),zP];dsimp only;rw[yT (by omega) (by omega),zb];cases(grp ts (n+(grp ts n).1)).2 with
   |true=>rw[cond_true,if_pos rfl];exact congrArg some (Prod.ext (by dsimp only;omega) rfl)
   |false=>rw[cond_false,if_neg (by simp)]
 by_cases h0:0<(grp ts n).1
 ·rw[decide_eq_true (show(0:Int)<((grp ts n).1:Int)by omega),cond_true,k1];unfold opG;cases(grp ts n).2 with
  |true=>simp
  |false=>simp[h0]
 ·rw[decide_eq_false (show¬(0:Int)<((grp ts n).1:Int)by omega),cond_false,k1,if_neg (by simp)];unfold opG;rw[if_neg (fun h=>h0 h.1)]
theorem Yc{N:Nat}(hN:2<N){ts:List Token}(hl:ts.length<=1000)(hN2:ts.length<N)(hw:∀t∈ts,Wd t):∀(k f n:Nat),1<=n->n<=ts.length->ts.length-n<k->ts.length-n<f+1->
  ∃m,ofN ts f n=m/\1<=m/\m<=ts.length/\qm N k (tkL ts) (n:Int)=some ((opG ts m:Int),0)
 |0,_,n,_,_,h,_=>by omega
 |k+1,f,n,h1,hn,hk,hf=>by
  show∃m,_/\_/\_/\Zm N (qm N k) (tkL ts) (n:Int)=_;unfold Zm;rw[KF (by simp) (by simpa using hN),zP];have stop:∀f',(isT ts n 1 [[79,70],[73,78]]&&nmT ts (n+1))=false->ofN ts f' n=n:=by
   intro f' h;cases f' with
   |zero=>rfl
   |succ f'=>unfold ofN;rw[h];rfl
  cases ha:isT ts n 1 [[79,70],[73,78]]with
  |false=>rw[cond_false];exact⟨n,stop f (by rw[ha];rfl),h1,hn,Yd (by omega) hl hN2 hn⟩
  |true=>
   rw[cond_true,yT (by omega) (by omega),zb,show(n:Int)+1=((n+1:Nat):Int)from rfl,zbp hw,zP];cases hb:nmT ts (n+1)with
   |false=>rw[cond_false];exact⟨n,stop f (by rw[hb,Bool.and_false]),h1,hn,Yd (by omega) hl hN2 hn⟩
   |true=>
    have:=zfX hb;rw[cond_true,yT (by omega) (by omega),zb,show(n:Int)+2=((n+2:Nat):Int)from rfl];cases f with
    |zero=>omega
    |succ f=>obtain⟨m,g1,g2,g3,g4⟩:=Yc hN hl hN2 hw k f (n+2) (by omega) (by omega) (by omega) (by omega);refine⟨m,?_,g2,g3,g4⟩;unfold ofN;rw[ha,hb];exact g1
theorem opd_ok{ts:List Token}:((opd ts).2=0/\1<=(opd ts).1/\(nmT ts 0=false->(opd ts).1=1/\1<=ts.length))\/((opd ts).2=4/\(opd ts).1=0):=by
 unfold opd;have ofl:∀(k n:Nat),1<=n->1<=ofN ts k n:=by
  intro k;induction k with
  |zero=>intro n h;exact h
  |succ k ih=>intro n h;unfold ofN;split;{exact ih _ (by omega)};exact h
 split
 ·rename_i h0;refine .inl ⟨rfl,?_,fun h=>by rw[h0]at h;cases h⟩;have:=ofl ts.length 1 (wP _);dsimp only;unfold opG
  (repeat' split)<;>omega
 ·split
  ·exact .inr ⟨rfl,rfl⟩
  ·rename_i t ht;split
   ·exact .inl ⟨rfl,wP _,fun _=>⟨rfl,by have:=(wM.1 ht).1;omega⟩⟩
   ·exact .inr ⟨rfl,rfl⟩
theorem Jh{N:Nat}(hN:2<N){ts:List Token}(hl:ts.length<=1000)(hN2:ts.length<N)(hw:∀t∈ts,Wd t):Ji N (tkL ts)=some (((opd ts).1:Int),(opd ts).2)/\(opd ts).1<=ts.length:=by
 unfold Ji opd;rw[show((0:Int))=((0:Nat):Int)from rfl,zbp hw,zP];cases h0:nmT ts 0 with
 |true=>have hlt:=zfX h0;rw[kG,cond_false,if_pos rfl];obtain⟨m,g1,g2,g3,g4⟩:=Yc hN hl hN2 hw N ts.length 1 (wP _) (by omega) (by omega) (by omega);rw[g1];exact⟨g4,(zjo g2 g3).2⟩
 |false=>
  rw[Bool.not_false,cond_true,if_neg (by simp)];cases h:ts[0]? with
  |none=>have:=List.getElem?_eq_none_iff.1 h;rw[decide_eq_true (show((tkL ts).length:Int)=((0:Nat):Int)by rw[zu];omega),cond_true];exact⟨rfl,kP _⟩
  |some t=>
   have hlt:=(wM.1 h).1;have hk:=V3 h;unfold zbi at hk;rw[decide_eq_false (show¬((tkL ts).length:Int)=((0:Nat):Int)by rw[zu];omega),cond_false,hk];simp only[zb];rw[Qu h];show cond (!decide (t.uB=2)) (cond (!decide (t.uB=3)) (cond (!decide (t.uB=1)) (some (((0:Nat):Int),(4:Int))) (bnd (VL t.uA) fun rr1=>cond (!decide (rr1=3)) (some (((0:Nat):Int),4)) (some (1,((0:Nat):Int))))) (some (1,((0:Nat):Int)))) (some (1,((0:Nat):Int)))=_/\_;by_cases h2:t.uB=2
   ·rw[decide_eq_true h2,kG,cond_false,if_pos (.inl h2)];exact⟨rfl,by dsimp only;omega⟩
   ·rw[decide_eq_false h2,Bool.not_false,cond_true];by_cases h3:t.uB=3
    ·rw[decide_eq_true h3,kG,cond_false,if_pos (.inr (.inl h3))];exact⟨rfl,by dsimp only;omega⟩
    ·rw[decide_eq_false h3,Bool.not_false,cond_true];by_cases h1:t.uB=1
     ·rw[decide_eq_true h1,kG,cond_false,XS (hw t (xN h) h1),zP];by_cases h4:Zc t.uA yH=3
      ·rw[decide_eq_true h4,kG,cond_false,if_pos (.inr (.inr ⟨h1,h4⟩))];exact⟨rfl,by dsimp only;omega⟩
      ·rw[decide_eq_false h4,Bool.not_false,cond_true,if_neg (by simp[h1,h4])];exact⟨rfl,kP _⟩
     ·rw[decide_eq_false h1,Bool.not_false,cond_true,if_neg (by simp[h1,h2,h3])];exact⟨rfl,kP _⟩
end Go.Proofs.C06
end
section
set_option maxRecDepth 100000
namespace Go.Proofs.C06
open Go Go.RowKit Go.Vc Go.Am
def wrd(ts:List Token)(i:Nat):mQ:=match ts[i]? with
 |some t=>if t.uB=1 then t.uA else[]
 |none=>[]
theorem qT{N:Nat}{ts:List Token}{i:Nat}:qU N (i:Int) (tkL ts)=some (wrd ts i,tkL ts):=by
 unfold qU wrd;cases h:ts[i]? with
 |none=>have:=List.getElem?_eq_none_iff.1 h;rw[decide_eq_false (by rw[zu];omega),cond_false]
 |some t=>
  have hlt:=(wM.1 h).1;have hk:=V3 h;unfold zbi at hk;rw[decide_eq_true (by rw[zu];omega),cond_true,hk,zb,zb,Qu h];show cond (decide (t.uB=1)) (some (t.uA,tkL ts)) (some ([],tkL ts))=_;by_cases hkk:t.uB=1
  ·rw[decide_eq_true hkk,cond_true];simp[hkk]
  ·rw[decide_eq_false hkk,cond_false];simp[hkk]
theorem zgZ{ts:List Token}(hw:∀t∈ts,Wd t)(i:Nat):XI (wrd ts i) qi=true:=by
 unfold wrd;cases h:ts[i]? with
 |none=>rfl
 |some t=>
  dsimp only;split
  ·rename_i h1;exact hw t (xN h) h1
  ·rfl
theorem zfn(ts:List Token)(a b:Nat):subL (tkL ts) (a:Int) (b:Int)=tkL ((ts.take b).drop a):=by unfold Am.subL tkL;rw[xU,xU,kE,kQ]
theorem YP{α:Type}(l:List α):subL l 0 (l.length:Int)=l:=by unfold Am.subL;rw[xU,List.take_length];rfl
theorem K5(k:IntKind):kEq k k=true:=by cases k<;>rfl
mutual
theorem ZJ:∀v:AV,zf v v=true
 |.undef=>rfl
 |.int k n=>by simp[zf,K5]
 |.bool b=>by simp[zf]
 |.str l=>by simp[zf]
 |.nilp=>rfl
 |.nilf=>rfl
 |.nili=>rfl
 |.nilm=>rfl
 |.nils=>rfl
 |.ptr _ _=>by simp[zf]
 |.ep _ _ _ _=>by simp[zf]
 |.rp v=>by simp[zf,ZJ v]
 |.rw _=>by simp[zf]
 |.rwp _=>by simp[zf]
 |.rwf _=>by simp[zf]
 |.pos k=>by simp[zf,K5]
 |.rws _ _ _ _=>by simp[zf]
 |.rwc _ _ _ _=>by simp[zf]
 |.rob _ _=>by simp[zf]
 |.roi _ k _=>by simp[zf,K5]
 |.ros _ _=>by simp[zf]
 |.rov _ _ l=>by simp[zf,y6 l]
 |.fn _ a c=>by simp[zf,y6 a,y6 c]
 |.fns _ _=>by simp[zf]
 |.agg l=>by simp[zf,y6 l]
 |.tup l=>by simp[zf,y6 l]
 |.iface _ v=>by simp[zf,ZJ v]
 |.map _=>by simp[zf]
theorem y6:∀l:List AV,yA l l=true
 |[]=>rfl
 |a::r=>by simp[yA,ZJ a,y6 r]
end
theorem zcr{α:Type}(v:AV)(x:Option α):chk (zf v v) x=x:=by rw[ZJ,zb]
theorem Vg:∀ts:List Token,(yv (tkL ts)).all zB=true
 |[]=>rfl
 |_::ts=>Vg ts
theorem ze7{N:Nat}{ts:List Token}(h1:1<=(tkL ts).length)(h2:(tkL ts).length<=100000):Q5 N (tkL ts)=some (tkL ts):=by
 unfold Q5;rw[show Nat.ble 1 (tkL ts).length=true from Nat.ble_eq_true_of_le h1,zb,Vg,mJ,List.nil_append];have:zm 48 (tkL ts).length=true:=by unfold zm;simp only[wN,Nat.ble_eq];omega
 rw[this,zb]
theorem zgO{N:Nat}{s:List AV}:zcn N s=some s:=by unfold zcn;rw[zI.2 ⟨by omega,by omega,by omega⟩,decide_eq_true rfl,YP];rfl
theorem ze9{N:Nat}:zgP N []=some []:=rfl
theorem zaJ{n:Nat}(h:n<=100000):zm 24 n=true:=by unfold zm;simp only[wN,Nat.ble_eq];omega
theorem qc{n:Nat}(h:n<=100000):zm 48 n=true:=by unfold zm;simp only[wN,Nat.ble_eq];omega
theorem zdo{n:Nat}(h:n<=100000):zm 56 n=true:=by unfold zm;simp only[wN,Nat.ble_eq];omega
def RPL:mQ:=[82,69,80,76,65,67,73,78,71]
def zeK(ts:List Token)(i:Nat):Prop:=(opd (ts.drop i)).2=0/\Zc (wrd ts i) yH=0/\wrd ts i≠[]
abbrev St6:=((Int×List AV)⊕(Int×List AV×List AV))
abbrev R6:=Option (List AV×List AV×Int)
def yb(ts:List Token):AV:=.rov true 5 (tkL ts)
section
variable {N : Nat} (hN : 1100 < N) {ts : List Token} (hl : ts.length <= 1000) (hw : ∀ t ∈ ts, Wd t) (go : St6 -> R6) {i : Nat} (hi : i < ts.length) (hr : wrd ts i ≠ RPL)
include hN hl hw hi hr
theorem Kr(ops:List AV)(ho:ops.length<=1000):(zeK ts i->zX N go (i:Int) (tkL ts) ops=go (.inr (((i+(opd (ts.drop i)).1:Nat):Int),tkL ts,ops++[yb ((ts.drop i).take (opd (ts.drop i)).1)]))/\
   jA N go (i:Int) (tkL ts)=go (.inr (((i+(opd (ts.drop i)).1:Nat):Int),tkL ts,[yb ((ts.drop i).take (opd (ts.drop i)).1)])))/\
  (¬zeK ts i->zX N go (i:Int) (tkL ts) ops=some ([],[],4)/\jA N go (i:Int) (tkL ts)=some ([],[],4)):=by
 have hwd:∀t∈ts.drop i,Wd t:=fun t ht=>hw t (List.mem_of_mem_drop ht)
 have hll:(ts.drop i).length<=1000:=by rw[wV];omega
 obtain⟨hop,hole⟩:=Jh (N:=N) (by omega) hll (by omega) hwd;rw[wV]at hole;have hsub:subL (tkL ts) (i:Int) ((tkL ts).length:Int)=tkL (ts.drop i):=by rw[zu,zfn,List.take_length]
 have hin:zV (i:Int) ((tkL ts).length:Int) (tkL ts).length=true:=zI.2 ⟨by omega,by rw[zu];omega,by omega⟩;have h1:decide ((i:Int)<((tkL ts).length:Int))=true:=decide_eq_true (by rw[zu];omega);have h2:decide (wrd ts i=([82,69,80,76,65,67,73,78,71]:mQ))=false:=decide_eq_false hr;unfold zX jA;simp only[h1,cond_true,qT,zP,h2,Bool.not_false,hin,zb,hsub,hop,XS (zgZ hw i)];unfold zeK;by_cases e1:(opd (ts.drop i)).2=0
 ·by_cases e2:Zc (wrd ts i) yH=0
  ·by_cases e3:wrd ts i=[]
   ·simp[e1,e3]
   ·have hpos:1<=(opd (ts.drop i)).1:=by rcases opd_ok (ts:=ts.drop i)with h|h<;>omega
    have hrow:subL (tkL ts) (i:Int) ((i:Int)+((opd (ts.drop i)).1:Int))=tkL ((ts.drop i).take (opd (ts.drop i)).1):=by rw[show(i:Int)+((opd (ts.drop i)).1:Int)=((i+(opd (ts.drop i)).1:Nat):Int)by omega,zfn,List.drop_take,Nat.add_sub_cancel_left]
    have hlen:(tkL ((ts.drop i).take (opd (ts.drop i)).1)).length=(opd (ts.drop i)).1:=by rw[zu,wR,wV];omega
    have k1:zj .i64 ((i:Int)+((opd (ts.drop i)).1:Int))=true:=yT (by omega) (by omega);have k2:zV (i:Int) ((i:Int)+((opd (ts.drop i)).1:Int)) (tkL ts).length=true:=zI.2 ⟨by omega,by omega,by rw[zu];omega⟩;have k3:Q5 N (tkL ((ts.drop i).take (opd (ts.drop i)).1))=some (tkL ((ts.drop i).take (opd (ts.drop i)).1)):=ze7 (by omega) (by omega);simp only[e1,e2,e3,decide_true,decide_false,kG,cond_false,k1,zb,k2,hrow,k3,zP,zgO,List.nil_append];rw[zaJ (by simp;omega),zaJ (by simp),zb,zb,show(i:Int)+((opd (ts.drop i)).1:Int)=((i+(opd (ts.drop i)).1:Nat):Int)by omega];refine⟨fun _=>⟨rfl,rfl⟩,fun h=>absurd ?_ h⟩;simp[e3]
  ·simp[e1,e2]
 ·simp[e1]
end
def XQ(c:Int):mQ:=if c=1 then[65,76,80,72,65,66,69,84,73,67]else if c=2 then[65,76,80,72,65,78,85,77,69,82,73,67]else if c=3 then[65,76,80,72,65,78,85,77,69,82,73,67,45,69,68,73,84,69,68]else if c=4 then[78,85,77,69,82,73,67]else[78,85,77,69,82,73,67,45,69,68,73,84,69,68]
def wd(s:mQ):Token:=⟨1,s,0,0,false⟩
structure Rl1 where
 c:Int
 t:Token
def Rl1.ok(r:Rl1):Prop:=(1<=r.c/\r.c<=5)/\(r.t.uB=2\/r.t.uB=3\/(r.t.uB=1/\XI r.t.uA qi=true/\Zc r.t.uA yH=3))
def zp(r:Rl1):AV:=.agg [.int .u8 r.c,.int .u8 r.t.uB,.str r.t.uA,.int .i64 r.t.uC,.int .i64 r.t.uD,.bool r.t.uE]
def ruleT(data:Bool)(r:Rl1):List Token:=wd (XQ r.c)::((if data then[wd [68,65,84,65]]else[])++[wd [66,89],r.t])
theorem yW{ts L:List Token}{i:Nat}(h:ts.drop i=L)(j:Nat):ts[i+j]? =L[j]? :=by rw[<-h,xH]
theorem qd{ts A B:List Token}{i:Nat}(h:ts.drop i=A++B):ts.drop (i+A.length)=B:=by rw[<-xD,h,List.drop_left]
theorem Zh{ts L:List Token}{i:Nat}(h:ts.drop i=L)(hL:L≠[]):i+L.length=ts.length:=by have:=congrArg List.length h;rw[wV]at this;have:0<L.length:=List.length_pos_iff.2 hL;omega
abbrev St2:=((Int×List AV×List AV)⊕(Int×List AV×List AV×List AV))
section
variable {N : Nat} {ts : List Token} (hl : ts.length <= 1000) (go : St2 -> R6) {i : Nat} (ops : List AV)
include hl
theorem ziI{r:Rl1}(hr:r.ok){R:List Token}(h:ts.drop i=wd [66,89]::r.t::R)(rs:List AV)(hrs:rs.length<=1000):Zw N go (i:Int) r.c true (tkL ts) ops=go (.inr (((i+2:Nat):Int),tkL ts,ops,[zp r]))/\
  qr N go (i:Int) r.c true (tkL ts) ops rs=go (.inr (((i+2:Nat):Int),tkL ts,ops,rs++[zp r])):=by
 have hlt:=Zh h (by simp);simp only[wY]at hlt;have g0:ts[i]? =some (wd [66,89]):=by simpa using yW h 0
 have g1:ts[i+1]? =some r.t:=by simpa using yW h 1
 have hw0:wrd ts i=[66,89]:=by unfold wrd;rw[g0];rfl
 have hk:=V3 g1;unfold zbi at hk;have hc1:((i:Int)+1)=((i+1:Nat):Int):=rfl;have k1:zj .i64 ((i+1:Nat):Int)=true:=yT (by omega) (by omega);have k2:zj .i64 ((i:Int)+2)=true:=yT (by omega) (by omega);have k3:decide (((tkL ts).length:Int)<=((i+1:Nat):Int))=false:=decide_eq_false (by rw[zu];omega);unfold Zw qr;simp only[kG,cond_false,qT,zP,hw0,decide_true,hc1,k1,zb,k3,hk,k2];rw[Qu g1];have c0:za (tkV r.t) 0=.int .u8 r.t.uB:=rfl;have c1:za (tkV r.t) 1=.str r.t.uA:=rfl;have c2:za (tkV r.t) 2=.int .i64 r.t.uC:=rfl;have c3:za (tkV r.t) 3=.int .i64 r.t.uD:=rfl;have c4:za (tkV r.t) 4=.bool r.t.uE:=rfl;have i0:Am.zc (.int .u8 r.t.uB)=r.t.uB:=rfl;have i2:Am.zc (.int .i64 r.t.uC)=r.t.uC:=rfl;have i3:Am.zc (.int .i64 r.t.uD)=r.t.uD:=rfl;have i1:j5 (.str r.t.uA)=r.t.uA:=rfl;have i4:j4 (.bool r.t.uE)=r.t.uE:=rfl;simp only[c0,c1,c2,c3,c4,i0,i1,i2,i3,i4];unfold Zv qq;have e:(i:Int)+2=((i+2:Nat):Int):=rfl;have f:(([]:List AV)++[.agg [.int .u8 r.c,.int .u8 r.t.uB,.str r.t.uA,.int .i64 r.t.uC,.int .i64 r.t.uD,.bool r.t.uE]])=[zp r]:=rfl;have f2:(rs++[.agg [.int .u8 r.c,.int .u8 r.t.uB,.str r.t.uA,.int .i64 r.t.uC,.int .i64 r.t.uD,.bool r.t.uE]])=rs++[zp r]:=rfl;simp only[e,f,f2];rw[zdo (by simp),zdo (by simp;omega)];simp only[zb];rcases hr.2 with h2|h3|⟨h1,hm,hlk⟩
 ·simp[h2]
 ·simp[h3]
 ·simp[h1,XS hm,hlk]
theorem zea{r:Rl1}(hr:r.ok){data:Bool}{R:List Token}(h:ts.drop i=ruleT data r++R)(rs:List AV)(hrs:rs.length<=1000):
  jB N go (i:Int) (tkL ts) ops=go (.inr (((i+(ruleT data r).length:Nat):Int),tkL ts,ops,[zp r]))/\
  jm N go (i:Int) (tkL ts) ops rs=go (.inr (((i+(ruleT data r).length:Nat):Int),tkL ts,ops,rs++[zp r])):=by
 have hne:ruleT data r++R≠[]:=by simp[ruleT]
 have hlt:=Zh h hne;have hi:i<ts.length:=by have:0<(ruleT data r++R).length:=List.length_pos_iff.2 hne;omega
 have g0:ts[i]? =some (wd (XQ r.c)):=by simpa[ruleT]using yW h 0
 have hw0:wrd ts i=XQ r.c:=by unfold wrd;rw[g0];rfl
 have h1:decide ((i:Int)<((tkL ts).length:Int))=true:=decide_eq_true (by rw[zu];omega);have k1:zj .i64 ((i:Int)+1)=true:=yT (by omega) (by omega);have k1c:zj .i64 ((i+1:Nat):Int)=true:=yT (by omega) (by omega);have k3:jK N go (i:Int) r.c true (tkL ts) ops=go (.inr (((i+(ruleT data r).length:Nat):Int),tkL ts,ops,[zp r]))/\
   je N go (i:Int) r.c true (tkL ts) ops rs=go (.inr (((i+(ruleT data r).length:Nat):Int),tkL ts,ops,rs++[zp r])):=by
  unfold jK je;simp only[k1c,zb,show(i:Int)+1=((i+1:Nat):Int)from rfl,qT,zP];cases data with
  |true=>
   have g1:ts[i+1]? =some (wd [68,65,84,65]):=by simpa[ruleT]using yW h 1
   have hw1:wrd ts (i+1)=[68,65,84,65]:=by unfold wrd;rw[g1];rfl
   have hd:ts.drop (i+2)=wd [66,89]::r.t::R:=by have:=qd (A:=[wd (XQ r.c),wd [68,65,84,65]]) (B:=wd [66,89]::r.t::R) (by simpa[ruleT]using h);simpa using this
   obtain⟨a,b⟩:=ziI hl go ops (N:=N) hr hd rs hrs;have k2':zj .i64 ((i+2:Nat):Int)=true:=yT (by omega) (by omega);simp only[hw1,decide_true,cond_true,show((i+1:Nat):Int)+1=((i+2:Nat):Int)from rfl,k2',zb,a,b];exact⟨rfl,rfl⟩
  |false=>
   have hd:ts.drop (i+1)=wd [66,89]::r.t::R:=by have:=qd (A:=[wd (XQ r.c)]) (B:=wd [66,89]::r.t::R) (by simpa[ruleT]using h);simpa using this
   have g1:ts[i+1]? =some (wd [66,89]):=by simpa using yW hd 0
   have hw1:wrd ts (i+1)=[66,89]:=by unfold wrd;rw[g1];rfl
   obtain⟨a,b⟩:=ziI hl go ops (N:=N) hr hd rs hrs;have hn:decide (([66,89]:mQ)=[68,65,84,65])=false:=by decide
   simp only[hw1,hn,cond_false,a,b];exact⟨rfl,rfl⟩
 unfold jB jm;simp only[h1,cond_true,zbP,zP,qT,hw0];obtain⟨c,t⟩:=r;obtain⟨⟨c1,c2⟩,_⟩:=hr;dsimp only at c1 c2 k3⊢;have:c=1\/c=2\/c=3\/c=4\/c=5:=by omega
 rcases this with rfl|rfl|rfl|rfl|rfl<;>exact k3
theorem zge{s:mQ}(hs:s=RPL\/s=[66,89])(h:ts.drop i=[wd s])(rs:List AV):jB N go (i:Int) (tkL ts) ops=some ([],[],4)/\jm N go (i:Int) (tkL ts) ops rs=some ([],[],4):=by
 have hlt:=Zh h (by simp);simp only[kH]at hlt;have g0:ts[i]? =some (wd s):=by simpa using yW h 0
 have hw0:wrd ts i=s:=by unfold wrd;rw[g0];rfl
 have h1:decide ((i:Int)<((tkL ts).length:Int))=true:=decide_eq_true (by rw[zu];omega);have hw1:wrd ts (i+1)=[]:=by unfold wrd;rw[mE (by omega)]
 have k1:zj .i64 ((i:Int)+1)=true:=yT (by omega) (by omega);have k1c:zj .i64 ((i+1:Nat):Int)=true:=yT (by omega) (by omega);have k3:jK N go (i:Int) 0 false (tkL ts) ops=some ([],[],4)/\je N go (i:Int) 0 false (tkL ts) ops rs=some ([],[],4):=by
  unfold jK je;simp only[k1c,zb,show(i:Int)+1=((i+1:Nat):Int)from rfl,qT,zP,hw1];have hn:decide (([]:mQ)=[68,65,84,65])=false:=by decide
  simp only[hn,cond_false];exact⟨rfl,rfl⟩
 unfold jB jm;simp only[h1,cond_true,zbP,zP,qT,hw0];rcases hs with rfl|rfl<;>exact k3
omit hl in
theorem zgd(h:ts.length<=i)(rs:List AV):jB N go (i:Int) (tkL ts) ops=some (ops,[],0)/\jm N go (i:Int) (tkL ts) ops rs=some (ops,rs,0):=by
 have h1:decide ((i:Int)<((tkL ts).length:Int))=false:=decide_eq_false (by rw[zu];omega);have hs:∀l:List AV,zV 0 (l.length:Int) l.length=true:=fun l=>zI.2 ⟨by omega,by omega,by omega⟩
 have ha:∀l:List AV,subL l 0 (0+((l.length:Int)-0))=l:=fun l=>by rw[show(0:Int)+((l.length:Int)-0)=(l.length:Int)by omega,YP]
 unfold jB jm;rw[h1,cond_false,cond_false];unfold QM Ju;rw[hs,hs,decide_eq_true rfl,decide_eq_true rfl,ze9,ha,ha];exact⟨rfl,rfl⟩
theorem zgc{data:Bool}{E:List Token}(hE:E=[]\/∃s,E=[wd s]/\(s=RPL\/s=[66,89])):∀(rl:List Rl1)(k i:Nat)(rs:List AV),(∀r∈rl,r.ok)->rs.length+rl.length<=1000->rl.length+1<k->
  ts.drop i=(rl.flatMap (ruleT data))++E->zE N k (.inr ((i:Int),tkL ts,ops,rs))=some (if E=[]then(ops,rs++rl.map zp,0)else([],[],4))
 |_,0,_,_,_,_,hk,_=>by omega
 |[],k+1,i,rs,_,_,_,h=>by
  show jm N (zE N k) (i:Int) (tkL ts) ops rs=_;rcases hE with rfl|⟨s,rfl,hs⟩
  ·have:ts.length<=i:=by have:=congrArg List.length h;simp only[wV,List.flatMap_nil,kN,List.length_nil]at this;omega
   rw[(zgd (zE N k) ops this rs).2,if_pos rfl];simp
  ·rw[(zge hl (zE N k) ops hs (by simpa using h) rs).2,if_neg (by simp)]
 |r::rl,k+1,i,rs,hr,hn,hk,h=>by
  show jm N (zE N k) (i:Int) (tkL ts) ops rs=_;simp only[wY]at hn hk;have h':ts.drop i=ruleT data r++(rl.flatMap (ruleT data)++E):=by rw[h,List.flatMap_cons,xE]
  rw[(zea hl (zE N k) ops (hr r (by simp)) h' rs (by omega)).2];rw[zgc hE rl k _ _ (fun x hx=>hr x (by simp[hx])) (by simp;omega) (by omega) (qd h')];simp
theorem zgf{data:Bool}{E:List Token}(hE:E=[]\/∃s,E=[wd s]/\(s=RPL\/s=[66,89]))(rl:List Rl1)(k i:Nat)(hr:∀r∈rl,r.ok)(hn:rl.length<=900)(hk:rl.length+2<k)(h:ts.drop i=(rl.flatMap (ruleT data))++E):
  zE N k (.inl ((i:Int),tkL ts,ops))=some (if E=[]then(ops,rl.map zp,0)else([],[],4)):=by
 obtain⟨k,rfl⟩:∃m,k=m+1:=⟨k-1,by omega⟩
 show jB N (zE N k) (i:Int) (tkL ts) ops=_;cases rl with
 |nil=>
  rcases hE with rfl|⟨s,rfl,hs⟩
  ·have:ts.length<=i:=by have:=congrArg List.length h;simp only[wV,List.flatMap_nil,kN,List.length_nil]at this;omega
   rw[(zgd (zE N k) ops this []).1,if_pos rfl];rfl
  ·rw[(zge hl (zE N k) ops hs (by simpa using h) []).1,if_neg (by simp)]
 |cons r rl=>
  simp only[wY]at hn hk;have h':ts.drop i=ruleT data r++(rl.flatMap (ruleT data)++E):=by rw[h,List.flatMap_cons,xE]
  rw[(zea hl (zE N k) ops (hr r (by simp)) h' [] (by simp)).1];rw[zgc hl ops hE rl k _ _ (fun x hx=>hr x (by simp[hx])) (by simp;omega) (by omega) (qd h')];simp
end
end Go.Proofs.C06
end
section
set_option maxRecDepth 100000
namespace Go.Proofs.C06
open Go Go.RowKit Go.Vc Go.Am
def sg(s:mQ):Token:=⟨5,s,0,0,false⟩
def nb(s:mQ):Token:=⟨2,s,0,0,false⟩
structure Op1 where
 c:Nat
 f:Bool
 p:Bool
def Op1.of(x:Op1):List Token:=if x.f then[wd [79,70],wd [71]]else[]
def Op1.par(x:Op1):List Token:=if x.p then[sg [40],nb [49],sg [41]]else[]
def zW(c:Nat):mQ:=[88,UInt8.ofNat (65+c)]
def opT(x:Op1):List Token:=wd (zW x.c)::(x.of++x.par)
theorem ZP{c:Nat}(h:c<=8):Zc (zW c) yH=0/\XI (zW c) qi=true/\zW c≠RPL/\zW c≠[79,70]/\zW c≠[73,78]:=by
 have:c=0\/c=1\/c=2\/c=3\/c=4\/c=5\/c=6\/c=7\/c=8:=by omega
 rcases this with rfl|rfl|rfl|rfl|rfl|rfl|rfl|rfl|rfl<;>exact⟨by rfl,by rfl,by decide,by decide,by decide⟩
def nxt(R:List Token):Prop:=R=[]\/∃t r,R=t::r/\t.uB=1/\t.uA≠[79,70]/\t.uA≠[73,78]
theorem zc9{R:List Token}(h:nxt R):isT R 0 1 [[79,70],[73,78]]=false/\isT R 0 5 [[40]]=false:=by
 rcases h with rfl|⟨t,r,rfl,h1,h2,h3⟩
 ·exact⟨rfl,rfl⟩
 ·unfold isT;simp[h1,h2,h3]
theorem J0(A R:List Token)(j:Nat)(k:Int)(w:List mQ):isT (A++R) (A.length+j) k w=isT R j k w:=by unfold isT;rw[xV (by omega),Nat.add_sub_cancel_left]
theorem zb8{ts:List Token}{n:Nat}(h:isT ts n 5 [[40]]=false):grp ts n=(0,false):=by unfold grp;rw[h];rfl
theorem zd4{A R:List Token}(hR:nxt R):opG (A++R) A.length=A.length:=by have h:grp (A++R) A.length=(0,false):=zb8 ((J0 A R 0 5 _).trans (zc9 hR).2);unfold opG;rw[h];rfl
theorem zd3{A R:List Token}(hR:nxt R):opG (A++(sg [40]::nb [49]::sg [41]::R)) A.length=A.length+3:=by
 have h:grp (A++(sg [40]::nb [49]::sg [41]::R)) A.length=(3,false):=by unfold grp;rw[show isT (A++(sg [40]::nb [49]::sg [41]::R)) A.length 5 [[40]]=true from(J0 A _ 0 5 _).trans rfl,if_pos rfl,List.drop_left];rfl
 have h2:grp (A++(sg [40]::nb [49]::sg [41]::R)) (A.length+3)=(0,false):=by
  refine zb8 ?_;have e:A++(sg [40]::nb [49]::sg [41]::R)=(A++[sg [40],nb [49],sg [41]])++R:=by simp
  rw[e,show A.length+3=(A++[sg [40],nb [49],sg [41]]).length+0 by simp,J0];exact (zc9 hR).2
 unfold opG;rw[h,h2];rfl
theorem zh2{x:Op1}(hc:x.c<=8){R:List Token}(hR:nxt R):opd (opT x++R)=((opT x).length,0):=by
 obtain⟨k1,k2,_,_,_⟩:=ZP hc;have h0:nmT (opT x++R) 0=true:=by show(decide ((1:Int)=1)&&decide (Zc (zW x.c) yH=0))=true;rw[k1];rfl
 unfold opd;rw[if_pos h0];refine Prod.ext ?_ rfl;dsimp only;obtain⟨c,f,p⟩:=x;dsimp only at hc k1 k2;have base:∀(A:List Token)(k:Nat),(A=[wd (zW c)]\/A=[wd (zW c),wd [79,70],wd [71]])->∀B,(B=R\/B=sg [40]::nb [49]::sg [41]::R)->ofN (A++B) k A.length=A.length:=by
  intro A k hA B hB;have hB':isT (A++B) A.length 1 [[79,70],[73,78]]=false:=by
   refine(J0 A B 0 1 _).trans ?_;rcases hB with rfl|rfl
   ·exact (zc9 hR).1
   ·rfl
  cases k with
  |zero=>rfl
  |succ k=>unfold ofN;rw[hB',Bool.false_and];rfl
 have step:∀B:List Token,ofN (wd (zW c)::wd [79,70]::wd [71]::B) (wd (zW c)::wd [79,70]::wd [71]::B).length 1=ofN ([wd (zW c),wd [79,70],wd [71]]++B) (B.length+2) 3:=by
  intro B;show ofN _ (B.length+2+1) 1=_;rw[ofN];have h1:(isT (wd (zW c)::wd [79,70]::wd [71]::B) 1 1 [[79,70],[73,78]]&&nmT (wd (zW c)::wd [79,70]::wd [71]::B) (1+1))=true:=by rfl
  rw[if_pos h1];rfl
 cases f<;>cases p
 ·show opG ([wd (zW c)]++R) (ofN ([wd (zW c)]++R) _ [wd (zW c)].length)=_;rw[base _ _ (.inl rfl) R (.inl rfl),zd4 hR];rfl
 ·show opG ([wd (zW c)]++(sg [40]::nb [49]::sg [41]::R)) (ofN ([wd (zW c)]++(sg [40]::nb [49]::sg [41]::R)) _ [wd (zW c)].length)=_;rw[base _ _ (.inl rfl) _ (.inr rfl),zd3 hR];rfl
 ·show opG ([wd (zW c),wd [79,70],wd [71]]++R) (ofN (wd (zW c)::wd [79,70]::wd [71]::R) (wd (zW c)::wd [79,70]::wd [71]::R).length 1)=_;rw[step];show opG _ (ofN _ _ [wd (zW c),wd [79,70],wd [71]].length)=_;rw[base _ _ (.inr rfl) R (.inl rfl),zd4 hR];rfl
 ·show opG ([wd (zW c),wd [79,70],wd [71]]++(sg [40]::nb [49]::sg [41]::R)) (ofN (wd (zW c)::wd [79,70]::wd [71]::(sg [40]::nb [49]::sg [41]::R)) (wd (zW c)::wd [79,70]::wd [71]::(sg [40]::nb [49]::sg [41]::R)).length 1)=_;rw[step];show opG _ (ofN _ _ [wd (zW c),wd [79,70],wd [71]].length)=_;rw[base _ _ (.inr rfl) _ (.inr rfl),zd3 hR];rfl
theorem zh3{x:Op1}(hc:x.c<=8)(R:List Token):nxt (opT x++R):=by obtain⟨_,_,_,k4,k5⟩:=ZP hc;exact .inr ⟨_,_,rfl,rfl,k4,k5⟩
theorem zce{os:List Op1}(hc:∀x∈os,x.c<=8){T:List Token}(hT:nxt T):nxt (os.flatMap opT++T):=by
 cases os with
 |nil=>exact hT
 |cons x os=>rw[List.flatMap_cons,xE];exact zh3 (hc x (by simp)) _
section
variable {N : Nat} (hN : 1100 < N) {ts : List Token} (hl : ts.length <= 1000) (hw : ∀ t ∈ ts, Wd t)
include hN hl hw
theorem zdT{x:Op1}(hc:x.c<=8){R:List Token}(hR:nxt R)(go:St6->R6){i:Nat}(h:ts.drop i=opT x++R)(ops:List AV)(ho:ops.length<=1000):
  zX N go (i:Int) (tkL ts) ops=go (.inr (((i+(opT x).length:Nat):Int),tkL ts,ops++[yb (opT x)]))/\
  jA N go (i:Int) (tkL ts)=go (.inr (((i+(opT x).length:Nat):Int),tkL ts,[yb (opT x)])):=by
 obtain⟨k1,k2,k3,_,_⟩:=ZP hc;have hlt:=Zh h (by simp[opT]);have hi:i<ts.length:=by simp only[opT,List.cons_append,wY]at hlt;omega
 have g0:ts[i]? =some (wd (zW x.c)):=by simpa[opT]using yW h 0
 have hw0:wrd ts i=zW x.c:=by unfold wrd;rw[g0];rfl
 have he:opd (ts.drop i)=((opT x).length,0):=by rw[h];exact zh2 hc hR
 have hop:zeK ts i:=⟨by rw[he],by rw[hw0];exact k1,by rw[hw0];simp[zW]⟩
 obtain⟨a,b⟩:=(Kr hN hl hw go hi (by rw[hw0];exact k3) ops ho).1 hop;rw[a,b,he];dsimp only;rw[h,List.take_left];exact⟨rfl,rfl⟩
theorem zfj{T:List Token}(hT:nxt T){out:List AV->List AV×List AV×Int}(hout:∀(k i:Nat)(ops:List AV),ops≠[]->ops.length<=1000->i<=ts.length->ts.drop i=T->zt N (k+1) (.inr ((i:Int),tkL ts,ops))=some (out ops)):
  ∀(os:List Op1)(k i:Nat)(ops:List AV),(∀x∈os,x.c<=8)->ops≠[]->ops.length+os.length<=1000->os.length<k->i<=ts.length->ts.drop i=os.flatMap opT++T->
   zt N k (.inr ((i:Int),tkL ts,ops))=some (out (ops++os.map fun x=>yb (opT x)))
 |_,0,_,_,_,_,_,hk,_,_=>by omega
 |[],k+1,i,ops,_,ho,hn,_,hi,h=>by rw[hout k i ops ho (by simpa using hn) hi (by simpa using h)];simp
 |x::os,k+1,i,ops,hc,ho,hn,hk,hi,h=>by
  show zX N (zt N k) (i:Int) (tkL ts) ops=_;simp only[wY]at hn hk;have h':ts.drop i=opT x++(os.flatMap opT++T):=by rw[h,List.flatMap_cons,xE]
  rw[(zdT hN hl hw (hc x (by simp)) (zce (fun y hy=>hc y (by simp[hy])) hT) (zt N k) h' ops (by omega)).1];rw[zfj hT hout os k _ _ (fun y hy=>hc y (by simp[hy])) (by simp) (by simp;omega) (by omega) (by have:=Zh h' (by simp[opT]);rw[wZ]at this;omega) (qd h')];simp
theorem WT{T:List Token}(hT:nxt T){out:List AV->List AV×List AV×Int}(hout:∀(k i:Nat)(ops:List AV),ops≠[]->ops.length<=1000->i<=ts.length->ts.drop i=T->zt N (k+1) (.inr ((i:Int),tkL ts,ops))=some (out ops))
  {os:List Op1} (hc:∀x∈os,x.c<=8) (h0:os≠[]) (hn:os.length<=900) (h:ts=os.flatMap opT++T):yc N (tkL ts)=some (out (os.map fun x=>yb (opT x))):=by
 cases os with
 |nil=>exact absurd rfl h0
 |cons x os=>
  simp only[wY]at hn;unfold yc;obtain⟨k,rfl⟩:∃m,N=m+1:=⟨N-1,by omega⟩
  show jA (k+1) (zt (k+1) k) ((0:Nat):Int) (tkL ts)=_;have h':ts.drop 0=opT x++(os.flatMap opT++T):=by rw[mK,h,List.flatMap_cons,xE]
  rw[(zdT hN hl hw (hc x (by simp)) (zce (fun y hy=>hc y (by simp[hy])) hT) (zt (k+1) k) h' [] (by simp)).2];rw[zfj hN hl hw hT hout os k _ _ (fun y hy=>hc y (by simp[hy])) (by simp) (by simp;omega) (by omega) (by have:=Zh h' (by simp[opT]);rw[wZ]at this;omega) (qd h')];simp
omit hN hl hw in
theorem zed{i:Nat}{ops:List AV}(ho:ops≠[])(hi:i<=2000):qt N (i:Int) (tkL ts) ops=if i+1=ts.length then some ([],[],4)else zE N N (.inl (((i+1:Nat):Int),tkL ts,ops)):=by
 have h0:ops.length≠0:=fun e=>ho (xG.1 e)
 unfold qt;rw[decide_eq_false (show¬(ops.length:Int)=0 by omega),cond_false,yT (by omega) (by omega),zb];by_cases h:i+1=ts.length
 ·rw[decide_eq_true (show(i:Int)+1=((tkL ts).length:Int)by rw[zu];omega),cond_true,if_pos h]
 ·rw[decide_eq_false (show¬(i:Int)+1=((tkL ts).length:Int)by rw[zu];omega),cond_false,if_neg h,zb];rfl
omit hw in
theorem zej(k i:Nat)(ops:List AV)(ho:ops≠[])(hi2:i<=2000)(h:ts.drop i=[]):zt N (k+1) (.inr ((i:Int),tkL ts,ops))=some (ops,[],0):=by
 have hi:ts.length<=i:=by have:=congrArg List.length h;rw[wV,List.length_nil]at this;omega
 show zX N (zt N k) (i:Int) (tkL ts) ops=_;unfold zX;rw[decide_eq_false (show¬(i:Int)<((tkL ts).length:Int)by rw[zu];omega),cond_false,zed ho hi2,if_neg (by omega)];exact zgf hl ops (data:=true) (.inl rfl) [] N (i+1) (by simp) (by simp) (by simp;omega) (by simp;omega)
omit hN hw in
theorem zbv{k i:Nat}{ops:List AV}(ho:ops≠[]){R:List Token}(h:ts.drop i=wd RPL::R):zt N (k+1) (.inr ((i:Int),tkL ts,ops))=if R=[]then some ([],[],4)else zE N N (.inl (((i+1:Nat):Int),tkL ts,ops)):=by
 have hlt:=Zh h (by simp);simp only[wY]at hlt;have g0:ts[i]? =some (wd RPL):=by simpa using yW h 0
 have hw0:wrd ts i=RPL:=by unfold wrd;rw[g0];rfl
 show zX N (zt N k) (i:Int) (tkL ts) ops=_;unfold zX;rw[decide_eq_true (show(i:Int)<((tkL ts).length:Int)by rw[zu];omega),cond_true,qT,zP];dsimp only;rw[hw0,decide_eq_true (show RPL=([82,69,80,76,65,67,73,78,71]:mQ)from rfl),kG,cond_false,zed ho (by omega)];cases R with
 |nil=>rw[if_pos (by simpa using hlt),if_pos rfl]
 |cons t R=>simp only[wY]at hlt;rw[if_neg (by omega),if_neg (by simp)]
omit hw in
theorem WG{data:Bool}{E:List Token}(hE:E=[]\/∃s,E=[wd s]/\(s=RPL\/s=[66,89])){rl:List Rl1}(hr:∀r∈rl,r.ok)(h0:rl≠[])(hn:rl.length<=900)(k i:Nat)(ops:List AV)(ho:ops≠[])
  (h:ts.drop i=wd RPL::(rl.flatMap (ruleT data)++E)):zt N (k+1) (.inr ((i:Int),tkL ts,ops))=some (if E=[]then(ops,rl.map zp,0)else([],[],4)):=by
 rw[zbv hl ho h,if_neg (by cases rl with
  |nil=>exact absurd rfl h0
  |cons r rl=>simp[ruleT])]
 refine zgf hl ops (data:=data) hE rl N (i+1) hr hn (by omega) ?_;have:=qd (A:=[wd RPL]) (by simpa using h);simpa using this
omit hN hw in
theorem zik(k i:Nat)(ops:List AV)(ho:ops≠[])(h:ts.drop i=[wd RPL]):zt N (k+1) (.inr ((i:Int),tkL ts,ops))=some ([],[],4):=by rw[zbv hl ho h,if_pos rfl]
theorem zjA(k i:Nat)(ops:List AV)(ho:ops.length<=1000)(h:ts.drop i=[wd [66,89]]):zt N (k+1) (.inr ((i:Int),tkL ts,ops))=some ([],[],4):=by
 have hlt:=Zh h (by simp);simp only[kH]at hlt;have g0:ts[i]? =some (wd [66,89]):=by simpa using yW h 0
 have hw0:wrd ts i=[66,89]:=by unfold wrd;rw[g0];rfl
 refine((Kr hN hl hw (zt N k) (by omega) (by rw[hw0];decide) ops ho).2 fun hop=>?_).1;have:=hop.1;rw[h]at this;revert this;decide
theorem zd0(hr:∀t∈ts,t.uA≠RPL):∀(k i:Nat)(ops:List AV),i<=ts.length->ts.length-i<k->ops≠[]->ops.length<=i->
  ∃r,zt N k (.inr ((i:Int),tkL ts,ops))=some r/\(r=([],[],4)\/∃cs:List (List Token),r=(ops++cs.map yb,[],0)/\cs.flatten=ts.drop i/\cs.length<=ts.length-i)
 |0,i,_,_,h,_,_=>by omega
 |k+1,i,ops,hi,hk,ho,hn=>by
  by_cases he:i=ts.length
  ·refine⟨_,zej hN hl k i ops ho (by omega) (by rw[List.drop_of_length_le (by omega)]),.inr ⟨[],by simp,by rw[List.drop_of_length_le (by omega)];rfl,kP _⟩⟩
  ·show∃r,zX N (zt N k) (i:Int) (tkL ts) ops=some r/\_;have hw0:wrd ts i≠RPL:=by
    unfold wrd;split
    ·rename_i t ht;split
     ·exact hr t (xN ht)
     ·decide
    ·decide
   obtain⟨a,b⟩:=Kr hN hl hw (zt N k) (by omega) hw0 ops (by omega);by_cases hop:zeK ts i
   ·rw[(a hop).1];have hp:1<=(opd (ts.drop i)).1:=by have:=hop.1;rcases opd_ok (ts:=ts.drop i)with h|h<;>omega
    have hle:=(Jh (N:=N) (ts:=ts.drop i) (by omega) (by rw[wV];omega) (by rw[wV];omega) (fun t ht=>hw t (List.mem_of_mem_drop ht))).2;rw[wV]at hle;obtain⟨r,h1,h2⟩:=zd0 hr k (i+(opd (ts.drop i)).1) (ops++[yb ((ts.drop i).take (opd (ts.drop i)).1)]) (by omega) (by omega) (by simp) (by simp;omega);refine⟨r,h1,h2.imp id ?_⟩;rintro⟨cs,rfl,hcs,hcl⟩;refine⟨(ts.drop i).take (opd (ts.drop i)).1::cs,by simp,?_,by rw[wY];omega⟩;rw[List.flatten_cons,hcs,<-xD,wX]
   ·rw[(b hop).1];exact⟨_,rfl,.inl rfl⟩
theorem zd1(hr:∀t∈ts,t.uA≠RPL):∃r,yc N (tkL ts)=some r/\(r=([],[],4)\/∃cs:List (List Token),cs≠[]/\r=(cs.map yb,[],0)/\cs.flatten=ts/\cs.length<=ts.length):=by
 unfold yc;obtain⟨k,hk⟩:∃m,N=m+1:=⟨N-1,by omega⟩
 have e:zt N N (.inl (0,tkL ts))=jA N (zt N k) ((0:Nat):Int) (tkL ts):=by
  have:∀n,n=k+1->zt N n (.inl (0,tkL ts))=jA N (zt N k) ((0:Nat):Int) (tkL ts):=by rintro n rfl;rfl
  exact this N hk
 rw[e];by_cases h0:ts=[]
 ·subst h0;exact⟨_,rfl,.inl rfl⟩
 ·have hlen:0<ts.length:=List.length_pos_iff.2 h0;have hw0:wrd ts 0≠RPL:=by
   unfold wrd;split
   ·rename_i t ht;split
    ·exact hr t (xN ht)
    ·decide
   ·decide
  obtain⟨a,b⟩:=Kr hN hl hw (zt N k) hlen hw0 [] (by simp);by_cases hop:zeK ts 0
  ·rw[(a hop).2];rw[mK]at*
   have hp:1<=(opd ts).1:=by have:=hop.1;rw[mK]at this;rcases opd_ok (ts:=ts)with h|h<;>omega
   have hle:=(Jh (N:=N) (ts:=ts) (by omega) hl (by omega) hw).2;obtain⟨r,h1,h2⟩:=zd0 hN hl hw hr k (0+(opd ts).1) [yb (ts.take (opd ts).1)] (by omega) (by omega) (by simp) (by simp;omega);refine⟨r,h1,h2.imp id ?_⟩;rintro⟨cs,rfl,hcs,hcl⟩;refine⟨ts.take (opd ts).1::cs,by simp,by simp,?_,by rw[wY];omega⟩;rw[List.flatten_cons,hcs,mD,wX]
  ·rw[(b hop).2];exact⟨_,rfl,.inl rfl⟩
end
end Go.Proofs.C06
end
section
set_option maxRecDepth 100000
namespace Go.Proofs.C06
open Go Go.RowKit Go.Vc Go.Am
theorem YZ{c:Int}{k:Int}(h:0<k):∃n:Nat,c%k=(n:Int)/\(n:Int)<k:=by obtain⟨n,hn⟩:=Int.eq_ofNat_of_zero_le (Int.emod_nonneg c (by omega:k≠0));exact⟨n,hn,by have:=Int.emod_lt_of_pos c h;omega⟩
theorem Zr{L:List AV}{m:Nat}{v:AV}(h:L[m]? =some v):atV L (m:Int)=v:=by rw[zcD,wU,h];rfl
theorem Yn{L:List AV}{m:Nat}{v:AV}(h:L[m]? =some v):zF (m:Int) L.length=true:=by have:=(wM.1 h).1;exact zG.2 ⟨by omega,by omega⟩
def tkK(w:Int):Int:=Am.zc (atV [.int .u8 2,.int .u8 1,.int .u8 3,.int .u8 1,.int .u8 2,.int .u8 1] w)
def tkT(w:Int):mQ:=atS [[49,50],[90,69,82,79,83],[97,98],[83,80,65,67,69],[45,49,46,53],[72,73,71,72,45,86,65,76,85,69]] w
def QG(c w:Int):Rl1:=⟨1+c%5,⟨tkK (w%6),tkT (w%6),0,0,false⟩⟩
def zgW(v:AV):Prop:=∃c w:Int,v=.agg [.int .u8 c,.int .u8 w]/\0<=c/\0<=w
theorem zjM{c:Int}:IntKind.wrap .u8 (1+c%5)=1+c%5:=by obtain⟨n,hn,hl⟩:=YZ (c:=c) (k:=5) (by decide);rw[hn];rcases n with _|_|_|_|_|n;all_goals first|rfl|(exfalso;omega)
theorem ziF(c w:Int):(QG c w).ok:=by
 obtain⟨n,hn,hl⟩:=YZ (c:=w) (k:=6) (by decide);obtain⟨m,hm,hl2⟩:=YZ (c:=c) (k:=5) (by decide);refine⟨by unfold QG;dsimp only;omega,?_⟩;unfold QG;rw[hn];rcases n with _|_|_|_|_|_|n
 ·exact .inl rfl
 ·exact .inr (.inr ⟨rfl,rfl,rfl⟩)
 ·exact .inr (.inl rfl)
 ·exact .inr (.inr ⟨rfl,rfl,rfl⟩)
 ·exact .inl rfl
 ·exact .inr (.inr ⟨rfl,rfl,rfl⟩)
 ·exfalso;omega
theorem We{N:Nat}{go:((List AV×Int)⊕(List AV×Int×List AV))->Option (List AV)}{L:List AV}{m:Nat}{c w:Int}(h:L[m]? =some (.agg [.int .u8 c,.int .u8 w]))(hc:0<=c)(hw:0<=w)(hm:m<5):
  (qR N go L (m:Int)=go (.inr (L,((m+1:Nat):Int),[zp (QG c w)])))/\∀b:List AV,b.length<=5->y8 N go L (m:Int) b=go (.inr (L,((m+1:Nat):Int),b++[zp (QG c w)])):=by
 have hlt:=(wM.1 h).1;have e1:=Zr h;have e2:=Yn h;have e3:=zjM (c:=c);have e4:zj .i64 ((m:Int)+1)=true:=yT (by omega) (by omega);have e5:(m:Int)+1=((m+1:Nat):Int):=by omega
 obtain⟨n,hn,hn6⟩:=YZ (c:=w) (k:=6) (by decide);have g1:∀b:List AV,b.length<=5->∀v:AV,zm 56 (b++[v]).length=true:=fun b hb v=>zdo (by simp;omega)
 have c1:jb c=true:=decide_eq_true hc;have c2:jb w=true:=decide_eq_true hw;have d1:decide ((m:Int)<(L.length:Int))=true:=decide_eq_true (by omega);have d2:decide ((m:Int)<5)=true:=decide_eq_true (by omega);constructor
 ·unfold qR;simp only[zC,zP,e1,e2,e3,e4,hn,za,Am.zc,d1,d2,c1,c2,cond_true,kR,kI];refine Eq.trans (b:=chk (zm 56 ([]++[zp (QG c w)]).length) (go (.inr (L,(m:Int)+1,[]++[zp (QG c w)])))) ?_ ?_
  ·unfold QG zp;rw[hn];rcases n with _|_|_|_|_|_|n
   all_goals first|rfl|(exfalso;omega)
  ·rw[g1 _ (kP _),zb,e5];rfl
 ·intro b hb;unfold y8;simp only[zC,zP,e1,e2,e3,e4,hn,za,Am.zc,d1,d2,c1,c2,cond_true,kR,kI];refine Eq.trans (b:=chk (zm 56 (b++[zp (QG c w)]).length) (go (.inr (L,(m:Int)+1,b++[zp (QG c w)])))) ?_ ?_
  ·unfold QG zp;rw[hn];rcases n with _|_|_|_|_|_|n
   all_goals first|rfl|(exfalso;omega)
  ·rw[g1 _ hb,zb,e5]
theorem Wf{N:Nat}{L:List AV}(hL:∀v∈L,zgW v)(h5:L.length<=5):∀(k m:Nat)(b:List Rl1),m<=L.length->L.length-m<k->b.length=m->(∀v∈b,v.ok)->
  ∃R:List Rl1,Za N k (.inr (L,(m:Int),b.map zp))=some (R.map zp)/\(∀v∈R,v.ok)/\R.length=L.length
 |0,_,_,_,h,_,_=>by omega
 |k+1,m,b,hm,hk,hb,hr=>by
  show∃R:List Rl1,y8 N (Za N k) L (m:Int) (b.map zp)=some (R.map zp)/\_;by_cases hml:m<L.length
  ·obtain⟨c,w,hv,hc,hw⟩:=hL L[m] (List.getElem_mem hml);have hg:L[m]? =some (.agg [.int .u8 c,.int .u8 w]):=by rw[wO hml,hv]
   rw[(We hg hc hw (by omega)).2 (b.map zp) (by simp;omega)];have:=Wf (N:=N) hL h5 k (m+1) (b++[QG c w]) (by omega) (by omega) (by simp[hb]) (fun v hv=>by
    rcases xB.1 hv with h|h
    ·exact hr v h
    ·rw[wQ]at h;subst h;exact ziF c w)
   rw[xR]at this;exact this
  ·have:y8 N (Za N k) L (m:Int) (b.map zp)=some (b.map zp):=by unfold y8;rw[decide_eq_false (by omega),cond_false]
   exact⟨b,this,hr,by omega⟩
theorem zhx{N:Nat}(hN:100<N){L:List AV}(hL:∀v∈L,zgW v)(h5:L.length<=5):∃R:List Rl1,zja N L=some (R.map zp)/\(∀v∈R,v.ok)/\R.length=L.length:=by
 obtain⟨n,rfl⟩:∃n,N=n+1:=⟨N-1,by omega⟩
 show∃R:List Rl1,qR (n+1) (Za (n+1) n) L 0=some (R.map zp)/\_;by_cases h0:0<L.length
 ·obtain⟨c,w,hv,hc,hw⟩:=hL L[0] (List.getElem_mem h0);have hg:L[0]? =some (.agg [.int .u8 c,.int .u8 w]):=by rw[wO h0,hv]
  rw[show(0:Int)=((0:Nat):Int)from rfl,(We hg hc hw (by omega)).1];exact Wf hL h5 n 1 [QG c w] (by omega) (by omega) rfl fun v hv=>by rw[wQ]at hv;subst hv;exact ziF c w
 ·refine⟨[],?_,(fun v hv=>by cases hv),by show 0=L.length;omega⟩;unfold qR;rw[decide_eq_false (by omega),cond_false];rfl
def VU(v:AV):Prop:=∃a b:Int,v=.agg [.int .u8 a,.int .u8 b]/\0<=a/\0<=b
def XG:List mQ:=[[40],[41],[43],[45],[42],[47],[42,42],[58],[61],[65],[66,45,49],[79,70],[73,78],[90,69,82,79],[84,79],[53]]
theorem zd2:∀n:Nat,n<16->XI (XG.getD n []) qi=true/\XG.getD n []≠RPL:=by
 intro n hn;rcases n with _|_|_|_|_|_|_|_|_|_|_|_|_|_|_|_|n
 all_goals first|exact⟨by rfl,by decide⟩|(exfalso;omega)
theorem zbE{N:Nat}{a b:Int}(ha:0<=a)(hb:0<=b):∃t,KL N ⟨a,b⟩=some t/\Wd t/\t.uA≠RPL:=by
 obtain⟨n,hn,hl⟩:=YZ (c:=b) (k:=16) (by decide);have hn16:n<16:=by omega
 have key:∀k:Int,∃t,(some (⟨k,atS XG (n:Int),0,0,false⟩:Token))=some t/\Wd t/\t.uA≠RPL:=fun k=>by
  have e:atS XG (n:Int)=XG.getD n []:=by unfold atS;rw[xU]
  exact⟨_,rfl,fun _=>by rw[e];exact (zd2 n hn16).1,by rw[e];exact (zd2 n hn16).2⟩
 have i1:zF (n:Int) XG.length=true:=zG.2 ⟨by omega,by show(n:Int)<16;omega⟩;have i2:jb b=true:=decide_eq_true hb;have i3:jb a=true:=decide_eq_true ha;unfold KL;dsimp only;rw[i2,i3,hn];show∃t,chk (zF (n:Int) XG.length) (chk (zF (n:Int) XG.length) (cond (decide (200<a)) (some (⟨a%9,atS XG (n:Int),0,0,false⟩:Token))
  (cond (decide ((n:Int)<9)) (some ⟨5,atS XG (n:Int),0,0,false⟩) (cond (decide ((n:Int)=15)) (some ⟨2,atS XG (n:Int),0,0,false⟩) (some ⟨1,atS XG (n:Int),0,0,false⟩)))))=some t/\_
 rw[i1,zb,zb];cases decide (200<a)with
 |true=>exact key _
 |false=>
  cases decide ((n:Int)<9)with
  |true=>exact key _
  |false=>
   cases decide ((n:Int)=15)with
   |true=>exact key _
   |false=>exact key _
theorem Vk{N:Nat}{ts:List Token}(hl:ts.length<=1000):∀(k i:Nat),i<=ts.length->ts.length-i<k->JK N k (tkL ts) (tkL ts) (ts.length:Int) (i:Int)=some true
 |0,_,_,h=>by omega
 |k+1,i,hi,hk=>by
  show YG N (JK N k) (tkL ts) (tkL ts) (ts.length:Int) (i:Int)=_;unfold YG;by_cases h:i<ts.length
  ·have hg:ts[i]? =some ts[i]:=wO h;have hk2:=V3 hg;unfold zbi at hk2;rw[decide_eq_true (show(i:Int)<(ts.length:Int)by omega),cond_true,hk2,zb,zb];have:∀x:Token,W4 N x x=some true:=fun x=>by unfold W4;simp
   rw[this,zP,kG,cond_false,yT (by omega) (by omega),zb];exact Vk hl k (i+1) (by omega) (by omega)
  ·rw[decide_eq_false (show¬(i:Int)<(ts.length:Int)by omega),cond_false]
theorem zbk{N:Nat}{ts:List Token}(hl:ts.length<=1000)(hN:1100<N):Xg N (tkL ts) (tkL ts)=some true:=by unfold Xg zgC;rw[decide_eq_true rfl,kG,cond_false,zu];have:=Vk (N:=N) hl N 0 (by omega) (by omega);rw[show((0:Int))=((0:Nat):Int)from rfl,this];rfl
end Go.Proofs.C06
end
section
set_option maxRecDepth 100000
namespace Go.Proofs.C06
open Go Go.RowKit Go.Vc Go.Am
theorem zb5{N:Nat}(hN:1100<N){rs:List Token}(hl:rs.length<=1000){cs:List (List Token)}(hcs:cs.flatten=rs)(hcl:cs.length<=1000):∀(k i:Nat),i<=cs.length->cs.length-i<k->
  zy N k (.inr (.inr (.inr (tkL rs,cs.map yb,0,(i:Int),tkL (cs.take i).flatten))))=some true
 |0,_,_,h=>by omega
 |k+1,i,hi,hk=>by
  show yQ N (zy N k) (tkL rs) (cs.map yb) 0 (i:Int) (tkL (cs.take i).flatten)=_;unfold yQ;by_cases h:i<cs.length
  ·have hg:(cs.map yb)[i]? =some (yb cs[i]):=by rw[xJ,wO h];rfl
   have hle:(cs.take i).flatten.length+cs[i].length<=rs.length:=by
    have e:cs=cs.take i++cs[i]::cs.drop (i+1):=by rw[<-kK h,wX]
    have e2:=congrArg (fun l=>(List.flatten l).length) e;simp only[List.flatten_append,List.flatten_cons,wZ]at e2;rw[hcs]at e2;omega
   rw[decide_eq_true (show(i:Int)<((cs.map yb).length:Int)by simp;omega),cond_true,Yn hg,Zr hg];show chk ((yv (tkL cs[i])).all zB&&zm 48 (tkL (cs.take i).flatten++tkL cs[i]).length) (chk (zj .i64 ((i:Int)+1)) (zy N k (.inr (.inr (.inr (tkL rs,cs.map yb,0,((i+1:Nat):Int),tkL (cs.take i).flatten++tkL cs[i]))))))=_;rw[Vg,mJ,qc (by rw[wZ,zu,zu];omega),zb,yT (by omega) (by omega),zb,<-qh];have e:(cs.take i).flatten++cs[i]=(cs.take (i+1)).flatten:=by rw[List.take_succ_eq_append_getElem h,List.flatten_append,List.flatten_singleton]
   rw[e];exact zb5 hN hl hcs hcl k (i+1) (by omega) (by omega)
  ·rw[decide_eq_false (show¬(i:Int)<((cs.map yb).length:Int)by simp;omega),cond_false,kT (by omega),hcs];unfold qb;rw[decide_eq_true rfl,kG,cond_false,zbk hl hN,zP];rfl
theorem zid{N:Nat}(hN:1100<N){rs:List Token}(hl:rs.length<=900)(hw:∀t∈rs,Wd t)(hr:∀t∈rs,t.uA≠RPL):yx N 4 4 (tkL rs)=some true:=by
 unfold yx;obtain⟨k,hk⟩:∃m,N=m+1:=⟨N-1,by omega⟩
 obtain⟨r,h1,h2⟩:=zd1 hN (by omega) hw hr;rw[h1,zP,decide_eq_true rfl,kG,cond_false,cond_false];rcases h2 with rfl|⟨cs,h0,rfl,hcs,hcl⟩
 ·show jc N (tkL rs) [] 4=_;unfold jc;have:∀n,n=k+1->zy N n (.inr (.inl (tkL rs,[],4,0)))=some true:=by rintro n rfl;rfl
  exact this N hk
 ·dsimp only;rw[decide_eq_true rfl,kG,cond_false];unfold yw;cases cs with
  |nil=>exact absurd rfl h0
  |cons c cs=>
   rw[decide_eq_true rfl,cond_true,decide_eq_false (show¬(((c::cs).map yb).length:Int)=0 by rw[xF,wY];omega),cond_false];show jc N (tkL rs) ((c::cs).map yb) 0=_;unfold jc;have step:∀n,n=k+1->zy N n (.inr (.inl (tkL rs,(c::cs).map yb,0,0)))=some true:=by
    rintro n rfl;show yR N (zy N k) (tkL rs) ((c::cs).map yb) 0 ((0:Nat):Int)=_;unfold yR;have hg:((c::cs).map yb)[0]? =some (yb c):=rfl;have hle:c.length<=rs.length:=by rw[<-hcs,List.flatten_cons,wZ];omega
    simp only[wY]at hcl;rw[decide_eq_true (show((0:Nat):Int)<(((c::cs).map yb).length:Int)by rw[xF,wY];omega),cond_true,Yn hg,Zr hg];have e1:yX (yb c)=tkL c:=rfl;have e2:qB 5 (yb c)=true:=rfl;have e3:((0:Nat):Int)+1=((1:Nat):Int):=rfl;rw[e1,e2,e3,mJ,zb,Vg,mJ,List.nil_append,qc (by rw[zu];omega),zb,yT (by omega) (by omega),zb];have h3:=zb5 hN (rs:=rs) (by omega) hcs (by rw[wY];omega) k 1 (by rw[wY];omega) (by rw[wY];omega);rw[show((c::cs).take 1).flatten=c from kN c]at h3;exact h3
   exact step N hk
theorem zj0{N:Nat}(hN:1100<N):qj N 4 4=some true:=by
 unfold qj;obtain⟨k,hk⟩:∃m,N=m+1:=⟨N-1,by omega⟩
 obtain⟨r,h1,h2⟩:=zd1 (N:=N) (ts:=[]) hN (by simp) (by simp) (by simp);have h1:yc N []=some r:=h1;rw[h1,zP,decide_eq_true rfl,kG,cond_false,cond_false];rcases h2 with rfl|⟨cs,h0,rfl,hcs,hcl⟩
 ·show yg N [] 4=_;unfold yg;have:∀n,n=k+1->zy N n (.inl ([],4,0))=some true:=by rintro n rfl;rfl
  exact this N hk
 ·exact absurd (xG.1 (by simpa using hcl)) h0
theorem zb4{N:Nat}(hN:1100<N){raw:List AV}(hR:∀v∈raw,VU v)(h20:raw.length<=20):∀(k i:Nat)(rs:List Token),i<=raw.length->raw.length-i<k->rs.length<=i->(∀t∈rs,Wd t)->(∀t∈rs,t.uA≠RPL)->
  zT N k (.inr (raw,4,4,(i:Int),tkL rs))=some true
 |0,_,_,_,h,_,_,_=>by omega
 |k+1,i,rs,hi,hk,hn,hw,hr=>by
  show yO N (zT N k) raw 4 4 (i:Int) (tkL rs)=_;unfold yO;by_cases h:i<raw.length
  ·obtain⟨a,b,hv,ha,hb⟩:=hR raw[i] (List.getElem_mem h);have hg:raw[i]? =some (.agg [.int .u8 a,.int .u8 b]):=by rw[wO h,hv]
   obtain⟨t,h1,h2,h3⟩:=zbE (N:=N) ha hb;rw[decide_eq_true (show(i:Int)<(raw.length:Int)by omega),cond_true,Yn hg,Zr hg];show bnd (KL N ⟨a,b⟩) (fun rr=>chk (zm 48 (tkL rs++[tkV rr]).length) (chk (zj .i64 ((i:Int)+1)) (zT N k (.inr (raw,4,4,((i+1:Nat):Int),tkL rs++[tkV rr])))))=_;rw[h1,zP,qc (by simp[tkL];omega),zb,yT (by omega) (by omega),zb];have e:tkL rs++[tkV t]=tkL (rs++[t]):=(qh rs [t]).symm;rw[e];refine zb4 hN hR h20 k (i+1) (rs++[t]) (by omega) (by omega) (by simp;omega) (fun x hx=>?_) (fun x hx=>?_)
   ·rcases xB.1 hx with hx|hx
    ·exact hw x hx
    ·rw[wQ]at hx;subst hx;exact h2
   ·rcases xB.1 hx with hx|hx
    ·exact hr x hx
    ·rw[wQ]at hx;subst hx;exact h3
  ·rw[decide_eq_false (show¬(i:Int)<(raw.length:Int)by omega),cond_false];exact zid hN (by omega) hw hr
theorem zj1{N:Nat}(hN:1100<N){raw:List AV}(hR:∀v∈raw,VU v)(h20:raw.length<=20):jZ N raw 4 4=some true:=by
 unfold jZ;obtain⟨k,hk⟩:∃m,N=m+1:=⟨N-1,by omega⟩
 have:∀n,n=k+1->zT N n (.inl (raw,4,4,0))=some true:=by
  rintro n rfl;show yP N (zT N k) raw 4 4 ((0:Nat):Int)=_;unfold yP;by_cases h:0<raw.length
  ·obtain⟨a,b,hv,ha,hb⟩:=hR raw[0] (List.getElem_mem h);have hg:raw[0]? =some (.agg [.int .u8 a,.int .u8 b]):=by rw[wO h,hv]
   obtain⟨t,h1,h2,h3⟩:=zbE (N:=N) ha hb;rw[decide_eq_true (show((0:Nat):Int)<(raw.length:Int)by omega),cond_true,Yn hg,Zr hg];have e3:((0:Nat):Int)+1=((1:Nat):Int):=rfl;rw[e3];show bnd (KL N ⟨a,b⟩) (fun rr=>chk (zm 48 ([]++[tkV rr]).length) (chk (zj .i64 ((1:Nat):Int)) (zT N k (.inr (raw,4,4,((1:Nat):Int),[]++[tkV rr])))))=_;rw[h1,zP,qc (by simp),zb,yT (by omega) (by omega),zb];exact zb4 hN hR h20 k 1 [t] (by omega) (by omega) (by simp) (fun x hx=>by rw[wQ]at hx;subst hx;exact h2) (fun x hx=>by rw[wQ]at hx;subst hx;exact h3)
  ·rw[decide_eq_false (show¬((0:Nat):Int)<(raw.length:Int)by omega),cond_false];exact zj0 hN
 exact this N hk
end Go.Proofs.C06
end
section
set_option maxRecDepth 100000
namespace Go.Proofs.C06
open Go Go.RowKit Go.Vc Go.Am
def stT(os:List Op1)(data:Bool)(rl:List Rl1):List Token:=os.flatMap opT++(if rl=[]then[]else wd RPL::rl.flatMap (ruleT data))
theorem zjn{x:Op1}(hc:x.c<=8):∀t∈opT x,Wd t:=by
 obtain⟨_,k2,_⟩:=ZP hc;obtain⟨c,f,p⟩:=x;intro t ht h1;simp only[opT,Op1.of,Op1.par,xC,xB]at ht;rcases ht with rfl|ht|ht
 ·exact k2
 ·cases f
  ·cases ht
  ·simp only[if_true,xC,List.not_mem_nil,or_false]at ht;rcases ht with rfl|rfl<;>rfl
 ·cases p
  ·cases ht
  ·simp only[if_true,xC,List.not_mem_nil,or_false]at ht;rcases ht with rfl|rfl|rfl<;>exact absurd h1 (by decide)
theorem zfH{r:Rl1}(hr:r.ok)(data:Bool):∀t∈ruleT data r,Wd t:=by
 obtain⟨c,v⟩:=r;obtain⟨⟨c1,c2⟩,h2⟩:=hr;dsimp only at c1 c2 h2;intro t ht h1;simp only[ruleT,xC,xB,List.not_mem_nil,or_false]at ht;rcases ht with rfl|ht|rfl|rfl
 ·have:c=1\/c=2\/c=3\/c=4\/c=5:=by omega
  rcases this with rfl|rfl|rfl|rfl|rfl<;>rfl
 ·cases data
  ·cases ht
  ·simp only[if_true,xC,List.not_mem_nil,or_false]at ht;subst ht;rfl
 ·rfl
 ·rcases h2 with h|h|h
  ·rw[h]at h1;cases h1
  ·rw[h]at h1;cases h1
  ·exact h.2.1
theorem XX(x:Op1):(opT x).length<=6:=by obtain⟨c,f,p⟩:=x;cases f<;>cases p<;>simp[opT,Op1.of,Op1.par]
theorem Wc(data:Bool)(r:Rl1):(ruleT data r).length<=4:=by cases data<;>simp[ruleT]
theorem ZE{α:Type}{f:α->List Token}{n:Nat}(h:∀x,(f x).length<=n):∀l:List α,(l.flatMap f).length<=n*l.length
 |[]=>by simp
 |x::l=>by rw[List.flatMap_cons,wZ,wY,Nat.mul_add];have:=ZE h l;have:=h x;omega
section
variable {N : Nat} (hN : 1100 < N) {os : List Op1} (hc : ∀ x ∈ os, x.c <= 8) (h0 : os ≠ []) (hn : os.length <= 9) (data : Bool) {rl : List Rl1} (hr : ∀ r ∈ rl, r.ok) (hrn : rl.length <= 5)
include hN hc h0 hn hr hrn
omit hN hc h0 hr in
theorem W6:(stT os data rl).length<=100:=by
 unfold stT;have h1:=ZE XX os;have h2:=ZE (Wc data) rl;rw[wZ];split
 ·simp only[List.length_nil];omega
 ·rw[wY];omega
omit hN h0 hn hrn in
theorem ziC:∀t∈stT os data rl,Wd t:=by
 intro t ht;unfold stT at ht;rcases xB.1 ht with h|h
 ·obtain⟨x,hx,hxt⟩:=List.mem_flatMap.1 h;exact zjn (hc x hx) t hxt
 ·split at h
  ·cases h
  ·rcases xC.1 h with rfl|h
   ·intro _;rfl
   ·obtain⟨x,hx,hxt⟩:=List.mem_flatMap.1 h;exact zfH (hr x hx) data t hxt
theorem zfU:yc N (tkL (stT os data rl))=some (os.map fun x=>yb (opT x),rl.map zp,0):=by
 have hl:=W6 hn data hrn;have hw:=ziC hc data hr;by_cases h:rl=[]
 ·subst h;have e:stT os data []=os.flatMap opT++[]:=rfl;exact WT hN (by omega) hw (T:=[]) (.inl rfl) (out:=fun ops=>(ops,[],0)) (fun k i ops ho _ hi hd=>zej hN (by omega) k i ops ho (by omega) hd) hc h0 (by omega) e
 ·have e:stT os data rl=os.flatMap opT++(wd RPL::rl.flatMap (ruleT data)):=by unfold stT;rw[if_neg h]
  exact WT hN (by omega) hw (T:=wd RPL::rl.flatMap (ruleT data)) (.inr ⟨_,_,rfl,rfl,by decide,by decide⟩) (out:=fun ops=>(ops,rl.map zp,0))
   (fun k i ops ho _ hi hd=>WG hN (by omega) (data:=data) (E:=[]) (.inl rfl) hr h (by omega) k i ops ho (by rw[hd,kN])) hc h0 (by omega) e
theorem Wo{s:mQ}(hs:s=RPL\/s=[66,89]):yc N (tkL (stT os data rl++[wd s]))=some ([],[],4):=by
 have hl:=W6 hn data hrn;have hw:∀t∈stT os data rl++[wd s],Wd t:=fun t ht=>by
  rcases xB.1 ht with h|h
  ·exact ziC hc data hr t h
  ·rw[wQ]at h;subst h;rcases hs with rfl|rfl<;>(intro _;rfl)
 have hl':(stT os data rl++[wd s]).length<=1000:=by rw[wZ,kH];omega
 by_cases h:rl=[]
 ·subst h;have e:stT os data []++[wd s]=os.flatMap opT++[wd s]:=by unfold stT;rw[if_pos rfl,kN]
  refine WT hN hl' hw (T:=[wd s]) (.inr ⟨_,_,rfl,rfl,by rcases hs with rfl|rfl<;>decide,by rcases hs with rfl|rfl<;>decide⟩) (out:=fun _=>([],[],4)) (fun k i ops ho hol hi hd=>?_) hc h0 (by omega) e;rcases hs with rfl|rfl
  ·exact zik hl' k i ops ho hd
  ·exact zjA hN hl' hw k i ops hol hd
 ·have e:stT os data rl++[wd s]=os.flatMap opT++(wd RPL::(rl.flatMap (ruleT data)++[wd s])):=by unfold stT;rw[if_neg h,xE];rfl
  exact WT hN hl' hw (T:=wd RPL::(rl.flatMap (ruleT data)++[wd s])) (.inr ⟨_,_,rfl,rfl,by decide,by decide⟩) (out:=fun _=>([],[],4))
   (fun k i ops ho _ hi hd=>WG hN hl' (data:=data) (E:=[wd s]) (.inr ⟨s,rfl,hs⟩) hr h (by omega) k i ops ho hd) hc h0 (by omega) e
theorem zj2{raw:List AV}(hR:∀v∈raw,VU v)(h20:raw.length<=20):j1 N raw (tkL (stT os data rl)) 4=some true:=by have hl:=W6 hn data hrn;unfold j1;rw[zI.2 ⟨by omega,by omega,by omega⟩,decide_eq_true rfl,YP];simp only[zcr,mJ,zb];show chk ((yv (tkL (stT os data rl))).all zB&&zm 48 (tkL (stT os data rl)++[tkV (wd [66,89])]).length) (bnd (yc N (tkL (stT os data rl)++[tkV (wd [66,89])])) fun rr=>jZ N raw 4 rr.2.2)=_;have e:tkL (stT os data rl)++[tkV (wd [66,89])]=tkL (stT os data rl++[wd [66,89]]):=(qh _ [wd [66,89]]).symm;rw[e,Vg,mJ,qc (by rw[zu,wZ,kH];omega),zb,Wo hN hc h0 hn data hr hrn (.inr rfl),zP];exact zj1 hN hR h20
theorem zgb{raw:List AV}(hR:∀v∈raw,VU v)(h20:raw.length<=20):∀(k i:Nat),i<=rl.length->rl.length-i<k->yq N k raw (tkL (stT os data rl)) (rl.map zp) (rl.map zp) (i:Int)=some true
 |0,_,_,h=>by omega
 |k+1,i,hi,hk=>by
  show qz N (yq N k) raw (tkL (stT os data rl)) (rl.map zp) (rl.map zp) (i:Int)=_;unfold qz;by_cases h:i<rl.length
  ·have hg:(rl.map zp)[i]? =some (zp rl[i]):=by rw[xJ,wO h];rfl
   rw[decide_eq_true (show(i:Int)<((rl.map zp).length:Int)by rw[xF];omega),cond_true,Yn hg,Zr hg];have e1:∀x:Option Bool,chk (true&&(yl (zp rl[i]) 6&&(zd .u8 (za (zp rl[i]) 0)&&(zd .u8 (za (zp rl[i]) 1)&&(yh (za (zp rl[i]) 2)&&(zd .i64 (za (zp rl[i]) 3)&&(zd .i64 (za (zp rl[i]) 4)&&(jq (za (zp rl[i]) 5)&&true)))))))) x=x:=fun x=>rfl
   rw[e1,e1];simp only[decide_true,Bool.and_self,kG,cond_false];rw[yT (by omega) (by omega),zb];exact zgb hR h20 k (i+1) (by omega) (by omega)
  ·rw[decide_eq_false (show¬(i:Int)<((rl.map zp).length:Int)by rw[xF];omega),cond_false];have hl:=W6 hn data hrn;rw[zI.2 ⟨by omega,by omega,by omega⟩,decide_eq_true rfl,YP];simp only[zcr,mJ,zb];show chk ((yv (tkL (stT os data rl))).all zB&&zm 48 (tkL (stT os data rl)++[tkV (wd RPL)]).length) (bnd (yc N (tkL (stT os data rl)++[tkV (wd RPL)])) fun rr=>j1 N raw (tkL (stT os data rl)) rr.2.2)=_;have e:tkL (stT os data rl)++[tkV (wd RPL)]=tkL (stT os data rl++[wd RPL]):=(qh _ [wd RPL]).symm;rw[e,Vg,mJ,qc (by rw[zu,wZ,kH];omega),zb,Wo hN hc h0 hn data hr hrn (.inl rfl),zP];exact zj2 hN hc h0 hn data hr hrn hR h20
def Zn(ts:List Token):AV:=.rov false 5 (tkL ts)
theorem zec{raw:List AV}(hR:∀v∈raw,VU v)(h20:raw.length<=20):∀(k i:Nat),i<=os.length->os.length-i<k->
  yu N k raw (tkL (stT os data rl)) (rl.map zp) (os.map (fun x=>yb (opT x))) (rl.map zp) (i:Int) (os.map (fun x=>Zn (opT x)))=some true
 |0,_,_,h=>by omega
 |k+1,i,hi,hk=>by
  show qA N (yu N k) raw (tkL (stT os data rl)) (rl.map zp) (os.map fun x=>yb (opT x)) (rl.map zp) (i:Int) (os.map fun x=>Zn (opT x))=_;unfold qA;by_cases h:i<os.length
  ·have hg:(os.map fun x=>yb (opT x))[i]? =some (yb (opT os[i])):=by rw[xJ,wO h];rfl
   have hg2:(os.map fun x=>Zn (opT x))[i]? =some (Zn (opT os[i])):=by rw[xJ,wO h];rfl
   have e1:qB 5 (yb (opT os[i]))=true:=rfl;have e2:qB 5 (Zn (opT os[i]))=true:=rfl;have e3:yX (yb (opT os[i]))=tkL (opT os[i]):=rfl;have e4:yX (Zn (opT os[i]))=tkL (opT os[i]):=rfl;have:=XX os[i];rw[decide_eq_true (show(i:Int)<((os.map fun x=>yb (opT x)).length:Int)by rw[xF];omega),cond_true,Yn hg,Zr hg,Yn hg2,Zr hg2,e1,e2,mJ,zb,zb,zb,e3,e4,
    zbk (by omega) hN,zP,kG,cond_false,yT (by omega) (by omega),zb]
   exact zec hR h20 k (i+1) (by omega) (by omega)
  ·rw[decide_eq_false (show¬(i:Int)<((os.map fun x=>yb (opT x)).length:Int)by rw[xF];omega),cond_false];exact zgb hN hc h0 hn data hr hrn hR h20 N 0 (by omega) (by omega)
theorem zic{raw:List AV}(hR:∀v∈raw,VU v)(h20:raw.length<=20){go:(List AV)->(List AV)->Int->Words->(List AV)->(List AV)->Option (Bool)}{i:Nat}(hi:rl.length<=i)(x:Words):jy N go raw (rl.map zp) (i:Int) x (tkL (stT os data rl)) (os.map fun x=>Zn (opT x))=some true:=by unfold jy;rw[decide_eq_false (show¬(i:Int)<((rl.map zp).length:Int)by rw[xF];omega),cond_false,zfU hN hc h0 hn data hr hrn,zP];simp only[decide_true,kG,cond_false,xF];exact zec hN hc h0 hn data hr hrn hR h20 N 0 (by omega) (by omega)
end
end Go.Proofs.C06
end
section
set_option maxRecDepth 100000
namespace Go.Proofs.C06
open Go Go.RowKit Go.Vc Go.Am
theorem zkv{c:Int}(h1:1<=c)(h2:c<=5):zF c (([[],[65,76,80,72,65,66,69,84,73,67],[65,76,80,72,65,78,85,77,69,82,73,67],[65,76,80,72,65,78,85,77,69,82,73,67,45,69,68,73,84,69,68],[78,85,77,69,82,73,67],[78,85,77,69,82,73,67,45,69,68,73,84,69,68]]:List mQ)).length=true/\
  atS ([[],[65,76,80,72,65,66,69,84,73,67],[65,76,80,72,65,78,85,77,69,82,73,67],[65,76,80,72,65,78,85,77,69,82,73,67,45,69,68,73,84,69,68],[78,85,77,69,82,73,67],[78,85,77,69,82,73,67,45,69,68,73,84,69,68]]:List mQ) c=XQ c:=by
 have:c=1\/c=2\/c=3\/c=4\/c=5:=by omega
 rcases this with rfl|rfl|rfl|rfl|rfl<;>exact⟨rfl,rfl⟩
theorem zgm{N:Nat}{go:(List AV)->(List AV)->Int->Words->(List AV)->(List AV)->Option Bool}{raw R:List AV}{i:Nat}{x:Words}{r:Rl1}(hg:R[i]? =some (zp r))(hi:i<=1000)(A:List Token)(hA:A.length<=900)(b2:List AV):
  jF N go raw R (i:Int) x (tkL A) b2=go raw R ((i+1:Nat):Int) x (tkL (A++[wd [66,89],r.t])) b2:=by
 unfold jF;rw[Yn hg,Zr hg];show chk (zm 48 (tkL A++[tkV (wd [66,89]),tkV r.t]).length) (chk (zj .i64 ((i:Int)+1)) (go raw R ((i+1:Nat):Int) x (tkL A++[tkV (wd [66,89]),tkV r.t]) b2))=_;have e:tkL A++[tkV (wd [66,89]),tkV r.t]=tkL (A++[wd [66,89],r.t]):=(qh _ [wd [66,89],r.t]).symm;rw[e,qc (by rw[zu];simp;omega),zb,yT (by omega) (by omega),zb]
theorem zgg{N:Nat}{go:(List AV)->(List AV)->Int->Words->(List AV)->(List AV)->Option Bool}{raw R:List AV}{i:Nat}{x:Words}{r:Rl1}(hg:R[i]? =some (zp r))(hi:i<=1000)(hr:r.ok)(A:List Token)(hA:A.length<=800)(b2:List AV):
  jy N go raw R (i:Int) x (tkL A) b2=go raw R ((i+1:Nat):Int) x (tkL (A++ruleT x.uR r)) b2:=by
 have hlt:=(wM.1 hg).1;obtain⟨c1,c2⟩:=zkv hr.1.1 hr.1.2;unfold jy;have e0:Am.zc (za (zp r) 0)=r.c:=rfl;have e1:∀y:Option Bool,chk (true&&(yl (zp r) 6&&(zd .u8 (za (zp r) 0)&&(zd .u8 (za (zp r) 1)&&(yh (za (zp r) 2)&&(zd .i64 (za (zp r) 3)&&(zd .i64 (za (zp r) 4)&&(jq (za (zp r) 5)&&true)))))))) y=y:=fun _=>rfl
 have e2:∀s:mQ,tkL A++[tkV (wd s)]=tkL (A++[wd s]):=fun s=>(qh _ [wd s]).symm
 rw[decide_eq_true (show(i:Int)<(R.length:Int)by omega),cond_true,Yn hg,Zr hg,e1,e0,c1,c2,zb,zb];show chk (zm 48 (tkL A++[tkV (wd (XQ r.c))]).length) (cond x.uR (chk (zm 48 ((tkL A++[tkV (wd (XQ r.c))])++[tkV (wd [68,65,84,65])]).length) (jF N go raw R (i:Int) x ((tkL A++[tkV (wd (XQ r.c))])++[tkV (wd [68,65,84,65])]) b2))
  (jF N go raw R (i:Int) x (tkL A++[tkV (wd (XQ r.c))]) b2))=_
 rw[e2,qc (by rw[zu];simp;omega),zb];have e3:tkL (A++[wd (XQ r.c)])++[tkV (wd [68,65,84,65])]=tkL ((A++[wd (XQ r.c)])++[wd [68,65,84,65]]):=(qh _ [wd [68,65,84,65]]).symm;rw[e3];unfold ruleT;cases x.uR with
 |true=>rw[cond_true,qc (by rw[zu];simp;omega),zb,zgm hg hi _ (by simp;omega)];simp
 |false=>rw[cond_false,zgm hg hi _ (by simp;omega)];simp
theorem zaD{N:Nat}(hN:1100<N){os:List Op1}(hc:∀x∈os,x.c<=8)(h0:os≠[])(hn:os.length<=9){rl:List Rl1}(hr:∀r∈rl,r.ok)(hrn:rl.length<=5){raw:List AV}(hR:∀v∈raw,VU v)(h20:raw.length<=20){x:Words}{P:List Token}(hP:P.length<=100)
  (hst:P++rl.flatMap (ruleT x.uR)=stT os x.uR rl):∀(k i:Nat),i<=rl.length->rl.length-i<k->
  jY N k raw (rl.map zp) (i:Int) x (tkL (P++(rl.take i).flatMap (ruleT x.uR))) (os.map fun x=>Zn (opT x))=some true
 |0,_,_,h=>by omega
 |k+1,i,hi,hk=>by
  show jy N (jY N k) raw (rl.map zp) (i:Int) x (tkL (P++(rl.take i).flatMap (ruleT x.uR))) (os.map fun x=>Zn (opT x))=_;by_cases h:i<rl.length
  ·have hg:(rl.map zp)[i]? =some (zp rl[i]):=by rw[xJ,wO h];rfl
   have hl:=ZE (Wc x.uR) (rl.take i);rw[wR]at hl;rw[zgg hg (by omega) (hr _ (List.getElem_mem h)) _ (by rw[wZ];omega)];have e:P++(rl.take i).flatMap (ruleT x.uR)++ruleT x.uR rl[i]=P++(rl.take (i+1)).flatMap (ruleT x.uR):=by rw[List.take_succ_eq_append_getElem h,List.flatMap_append,xE];simp
   rw[e];exact zaD hN hc h0 hn hr hrn hR h20 hP hst k (i+1) (by omega) (by omega)
  ·rw[kT (by omega),hst];exact zic hN hc h0 hn x.uR hr hrn hR h20 (by omega) x
theorem zgn{N:Nat}(hN:1100<N){os:List Op1}(hc:∀x∈os,x.c<=8)(h0:os≠[])(hn:os.length<=9){raw:List AV}(hR:∀v∈raw,VU v)(h20:raw.length<=20){x:Words}(hV:∀v∈x.uS,zgW v)(h5:x.uS.length<=5):
  qk N raw x (tkL (os.flatMap opT)) (os.map fun x=>Zn (opT x))=some true:=by
 obtain⟨rl,h1,h2,h3⟩:=zhx (N:=N) (by omega) hV h5;have hl:=ZE XX os;unfold qk;rw[h1,zP];by_cases hr:rl=[]
 ·subst hr;rw[decide_eq_false (by simp),cond_false];unfold j2;have:=zaD hN hc h0 hn (rl:=[]) (by simp) (by simp) hR h20 (x:=x) (P:=os.flatMap opT) (by omega) rfl N 0 (by simp) (by simp;omega);simpa using this
 ·have hp:0<rl.length:=List.length_pos_iff.2 hr;rw[decide_eq_true (show(0:Int)<((rl.map zp).length:Int)by rw[xF];omega),cond_true];show chk (zm 48 (tkL (os.flatMap opT)++[tkV (wd RPL)]).length) (j2 N raw (rl.map zp) x (tkL (os.flatMap opT)++[tkV (wd RPL)]) (os.map fun x=>Zn (opT x)))=_;have e:tkL (os.flatMap opT)++[tkV (wd RPL)]=tkL (os.flatMap opT++[wd RPL]):=(qh _ [wd RPL]).symm;rw[e,qc (by rw[zu,wZ,kH];omega),zb];unfold j2;have:=zaD hN hc h0 hn h2 (by omega) hR h20 (x:=x) (P:=os.flatMap opT++[wd RPL]) (by rw[wZ,kH];omega) (by unfold stT;rw[if_neg hr,xE];rfl) N 0 (by omega) (by omega);simpa using this
def opI(l:mQ)(i:Nat):Op1:=⟨i,match l[i]? with
 |some n=>decide (n.toNat%2=1)
 |none=>false,match l[i]? with
 |some n=>decide (1<n.toNat%4)
 |none=>false⟩
theorem zbL{l:mQ}{i:Nat}(h:l[i]? =none):opI l i=⟨i,false,false⟩:=by unfold opI;rw[h]
theorem zbK{l:mQ}{i:Nat}{n:UInt8}(h:l[i]? =some n):opI l i=⟨i,decide (n.toNat%2=1),decide (1<n.toNat%4)⟩:=by unfold opI;rw[h]
theorem zjX{i:Nat}(h:i<=8):zj .u8 (IntKind.wrap .u8 (65+(i:Int)))=true/\[(IntKind.wrap .u8 (65+(i:Int)))].map toByte=[UInt8.ofNat (65+i)]:=by
 have:i=0\/i=1\/i=2\/i=3\/i=4\/i=5\/i=6\/i=7\/i=8:=by omega
 rcases this with rfl|rfl|rfl|rfl|rfl|rfl|rfl|rfl|rfl<;>exact⟨rfl,rfl⟩
abbrev zkz:=((List AV×Int×Words)⊕(List AV×Int×Words×List AV×List AV))
section
variable {N : Nat} (go : zkz -> Option Bool) (raw : List AV) {i : Nat} (hi : i <= 8) {x : Words}
include hi
theorem zgk{A:List Token}(hA:A.length<=100){B:List Token}(hB:B.length<=100){b2:List AV}(hb:b2.length<=100):jM N go raw (i:Int) x (tkL A)=go (.inr (raw,((i+1:Nat):Int),x,tkL A,[Zn A]))/\
  jn N go raw (i:Int) x (tkL B) b2 (tkL A)=go (.inr (raw,((i+1:Nat):Int),x,tkL (B++A),b2++[Zn A])):=by
 have e:(i:Int)+1=((i+1:Nat):Int):=rfl;unfold jM jn;rw[Vg,List.nil_append,List.nil_append,zaJ (by simp),zaJ (by simp;omega),qc (by rw[zu];omega),<-qh,qc (by rw[zu];simp;omega),e,yT (by omega) (by omega)];exact⟨rfl,rfl⟩
theorem zgj(b:Bool){A:List Token}(hA:A.length<=90){B:List Token}(hB:B.length<=100){b2:List AV}(hb:b2.length<=100):
  yf N go raw (i:Int) b x (tkL A)=go (.inr (raw,((i+1:Nat):Int),x,tkL (A++if b=true then[sg [40],nb [49],sg [41]]else[]),[Zn (A++if b=true then[sg [40],nb [49],sg [41]]else[])]))/\
  jL N go raw (i:Int) b x (tkL B) b2 (tkL A)=go (.inr (raw,((i+1:Nat):Int),x,tkL (B++(A++if b=true then[sg [40],nb [49],sg [41]]else[])),b2++[Zn (A++if b=true then[sg [40],nb [49],sg [41]]else[])])):=by
 unfold yf jL;cases b with
 |true=>rw[cond_true,cond_true];show chk (zm 48 (tkL A++tkL [sg [40],nb [49],sg [41]]).length) (jM N go raw (i:Int) x (tkL A++tkL [sg [40],nb [49],sg [41]]))=_/\chk (zm 48 (tkL A++tkL [sg [40],nb [49],sg [41]]).length) (jn N go raw (i:Int) x (tkL B) b2 (tkL A++tkL [sg [40],nb [49],sg [41]]))=_;rw[<-qh,qc (by rw[zu];simp;omega),zb,zb,if_pos rfl];exact zgk go raw hi (by simp;omega) hB hb
 |false=>rw[cond_false,cond_false,if_neg (by simp),kN];exact zgk go raw hi (by omega) hB hb
theorem zdj{A:List Token}(hA:A.length<=90){B:List Token}(hB:B.length<=100){b2:List AV}(hb:b2.length<=100):
  zZ N go raw (i:Int) x (tkL A)=go (.inr (raw,((i+1:Nat):Int),x,tkL (A++(opI x.uF i).par),[Zn (A++(opI x.uF i).par)]))/\
  zN N go raw (i:Int) x (tkL B) b2 (tkL A)=go (.inr (raw,((i+1:Nat):Int),x,tkL (B++(A++(opI x.uF i).par)),b2++[Zn (A++(opI x.uF i).par)])):=by
 unfold zZ zN;cases h:x.uF[i]? with
 |none=>have:=List.getElem?_eq_none_iff.1 h;rw[decide_eq_false (show¬(i:Int)<(x.uF.length:Int)by omega),cond_false,cond_false,zbL h];exact zgj go raw hi false hA hB hb
 |some n=>
  have hlt:=(wM.1 h).1;have eb:jg x.uF (i:Int)=(n.toNat:Int):=by unfold jg;rw[xU,wU,h];rfl
  have e2:decide ((1:Int)<(n.toNat:Int)%4)=decide (1<n.toNat%4):=decide_eq_decide.2 (by omega);rw[decide_eq_true (show(i:Int)<(x.uF.length:Int)by omega),cond_true,cond_true,zG.2 ⟨by omega,by omega⟩,zb,zb,eb,show jb (n.toNat:Int)=true from decide_eq_true (by omega),e2,zbK h];exact zgj go raw hi _ hA hB hb
theorem zgl{B:List Token}(hB:B.length<=100){b2:List AV}(hb:b2.length<=100):
  jO N go raw (i:Int) x=go (.inr (raw,((i+1:Nat):Int),x,tkL (opT (opI x.uF i)),[Zn (opT (opI x.uF i))]))/\
  jN N go raw (i:Int) x (tkL B) b2=go (.inr (raw,((i+1:Nat):Int),x,tkL (B++opT (opI x.uF i)),b2++[Zn (opT (opI x.uF i))])):=by
 obtain⟨n1,n2⟩:=zjX hi;have c1:Yk ([88]:mQ) [UInt8.ofNat (65+i)]=true:=rfl;have k1:zj .i64 (65+(i:Int))=true:=yT (by omega) (by omega);unfold jO jN;rw[k1,n1,n2,c1];cases h:x.uF[i]? with
 |none=>have:=List.getElem?_eq_none_iff.1 h;show cond (decide ((i:Int)<(x.uF.length:Int))) _ (zZ N go raw (i:Int) x (tkL [wd (zW i)]))=_/\cond (decide ((i:Int)<(x.uF.length:Int))) _ (zN N go raw (i:Int) x (tkL B) b2 (tkL [wd (zW i)]))=_;rw[decide_eq_false (show¬(i:Int)<(x.uF.length:Int)by omega),cond_false,cond_false];have:=zdj (N:=N) go raw hi (x:=x) (A:=[wd (zW i)]) (by simp) hB hb;rw[zbL h]at this⊢;exact this
 |some n=>
  have hlt:=(wM.1 h).1;have eb:jg x.uF (i:Int)=(n.toNat:Int):=by unfold jg;rw[xU,wU,h];rfl
  have e2:decide ((n.toNat:Int)%2=1)=decide (n.toNat%2=1):=decide_eq_decide.2 (by omega);show cond (decide ((i:Int)<(x.uF.length:Int))) (chk (zF (i:Int) x.uF.length) (chk (jb (jg x.uF (i:Int))&&decide ((0:Int)<2)) (cond (decide ((jg x.uF (i:Int))%2=1))
    (zZ N go raw (i:Int) x (tkL [wd (zW i),wd [79,70],wd [71]])) (zZ N go raw (i:Int) x (tkL [wd (zW i)]))))) _=_/\
   cond (decide ((i:Int)<(x.uF.length:Int))) (chk (zF (i:Int) x.uF.length) (chk (jb (jg x.uF (i:Int))&&decide ((0:Int)<2)) (cond (decide ((jg x.uF (i:Int))%2=1))
    (zN N go raw (i:Int) x (tkL B) b2 (tkL [wd (zW i),wd [79,70],wd [71]])) (zN N go raw (i:Int) x (tkL B) b2 (tkL [wd (zW i)]))))) _=_
  rw[decide_eq_true (show(i:Int)<(x.uF.length:Int)by omega),cond_true,cond_true,zG.2 ⟨by omega,by omega⟩,zb,zb,eb,show jb (n.toNat:Int)=true from decide_eq_true (by omega),e2];show cond (decide (n.toNat%2=1)) _ _=_/\cond (decide (n.toNat%2=1)) _ _=_;have h3:=zdj (N:=N) go raw hi (x:=x) (A:=[wd (zW i),wd [79,70],wd [71]]) (by simp) hB hb;have h1:=zdj (N:=N) go raw hi (x:=x) (A:=[wd (zW i)]) (by simp) hB hb;rw[zbK h]at h1 h3⊢;cases hd:decide (n.toNat%2=1)with
  |true=>rw[cond_true,cond_true];exact h3
  |false=>rw[cond_false,cond_false];exact h1
end
theorem zeb{N:Nat}(hN:1100<N){raw:List AV}(hR:∀v∈raw,VU v)(h20:raw.length<=20){x:Words}(hV:∀v∈x.uS,zgW v)(h5:x.uS.length<=5)(h8:x.uF.length<=8):∀(k i:Nat),1<=i->i<=max 1 x.uF.length->max 1 x.uF.length-i<k->
  zk N k (.inr (raw,(i:Int),x,tkL (((List.range i).map (opI x.uF)).flatMap opT),((List.range i).map (opI x.uF)).map fun x=>Zn (opT x)))=some true
 |0,_,_,_,h=>by omega
 |k+1,i,h1,hi,hk=>by
  show yM N (zk N k) raw (i:Int) x (tkL (((List.range i).map (opI x.uF)).flatMap opT)) (((List.range i).map (opI x.uF)).map fun x=>Zn (opT x))=_;unfold yM;have hl:=ZE XX ((List.range i).map (opI x.uF));rw[xF,List.length_range]at hl;by_cases h:i<x.uF.length
  ·rw[decide_eq_true (show(i:Int)<(x.uF.length:Int)by omega),cond_true,(zgl (N:=N) (zk N k) raw (by omega) (x:=x) (by omega) (by simp;omega)).2];have:=zeb hN hR h20 hV h5 h8 k (i+1) (by omega) (by omega) (by omega);rw[List.range_succ]at this;simpa using this
  ·rw[decide_eq_false (show¬(i:Int)<(x.uF.length:Int)by omega),cond_false,decide_eq_false (show¬(i:Int)=0 by omega),cond_false];refine zgn hN (fun y hy=>?_) (fun e=>?_) (by simp;omega) hR h20 hV h5
   ·simp only[xY,List.mem_range]at hy;obtain⟨a,ha,rfl⟩:=hy;show a<=8;omega
   ·have:=congrArg List.length e;simp at this;omega
theorem XK(x:Words)(raw:List AV)(hV:∀v∈x.uS,zgW v)(hR:∀v∈raw,VU v):∃N,jT N x raw=some true:=by
 refine⟨2000,?_⟩;unfold jT;by_cases h8:8<x.uF.length
 ·rw[decide_eq_true (show(8:Int)<(x.uF.length:Int)by omega),cond_true]
 rw[decide_eq_false (show¬(8:Int)<(x.uF.length:Int)by omega),cond_false];by_cases h5:5<x.uS.length
 ·rw[decide_eq_true (show(5:Int)<(x.uS.length:Int)by omega),cond_true]
 rw[decide_eq_false (show¬(5:Int)<(x.uS.length:Int)by omega),cond_false];by_cases h20:20<raw.length
 ·rw[decide_eq_true (show(20:Int)<(raw.length:Int)by omega),cond_true]
 rw[decide_eq_false (show¬(20:Int)<(raw.length:Int)by omega),cond_false];have step:∀n,n=1999+1->zk 2000 n (.inl (raw,0,x))=some true:=by
  rintro n rfl;show yN 2000 (zk 2000 1999) raw ((0:Nat):Int) x=_;have key:jO 2000 (zk 2000 1999) raw ((0:Nat):Int) x=some true:=by rw[(zgl (N:=2000) (zk 2000 1999) raw (by omega) (x:=x) (B:=[]) (by simp) (b2:=[]) (by simp)).1];have:=zeb (N:=2000) (by omega) hR (by omega) hV (by omega) (by omega) 1999 1 (by omega) (by omega) (by omega);simpa using this
  unfold yN;rw[key];cases decide (((0:Nat):Int)<(x.uF.length:Int))<;>rfl
 exact step 2000 rfl
end Go.Proofs.C06
end
