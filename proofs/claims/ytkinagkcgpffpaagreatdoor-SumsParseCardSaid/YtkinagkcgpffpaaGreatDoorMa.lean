/-
  A part of the proof of the laws.
-/
import Derived.Test.YtkinagkcgpffpaaGreatDoorCi
section
set_option maxRecDepth 100000
namespace Go.Proofs.C06
open Go Go.RowKit Go.Vc Go.Am
theorem jo{n:Int}(h1: -9223372036854775808≤n)(h2:n≤9223372036854775807):inKb .i64 n=true:=
 Qe.2 ⟨h1,h2⟩
def tkV(t:Token):AV:=.agg [.int .u8 t.Kind,.str t.Text,.int .i64 t.At_Line,.int .i64 t.At_Column,.bool t.Left]
def tkL(ts:List Token):List AV:=ts.map tkV
theorem zq(ts:List Token):(tkL ts).length=ts.length:=by simp[tkL]
theorem VK(L:List AV)(m:Nat):atV L (m:Int)=L.getD m .undef:=by unfold atV;rw[Int.toNat_natCast]
theorem zW{ts:List Token}{i:Nat}{t:Token}(h:ts[i]? =some t):atV (tkL ts) (i:Int)=tkV t:=by rw[VK,List.getD_eq_getElem?_getD,tkL,List.getElem?_map,h];rfl
theorem jH{ts:List Token}{i:Nat}{t:Token}(h:ts[i]? =some t):inIx (i:Int) (tkL ts).length=true:=by have:=(List.getElem?_eq_some_iff.1 h).1;rw[zq];exact zC.2 ⟨by omega,by omega⟩
def znG(l:List AV)(i:Int):Bool:=inIx i (l).length&&(lenB (atV l i) 5&&(isIntK .u8 (cellOf (atV l i) 0)&&(isStr (cellOf (atV l i) 1)&&(isIntK .i64 (cellOf (atV l i) 2)&&(isIntK .i64 (cellOf (atV l i) 3)&&(isBool (cellOf (atV l i) 4)&&true))))))
theorem znE{ts:List Token}{i:Nat}{t:Token}(h:ts[i]? =some t):znG (tkL ts) (i:Int)=true:=by unfold znG;rw[jH h,zW h];rfl
theorem zd9{N:Nat}{s:List (List UInt8)}{v:List UInt8}(hs:s.length≤1000):∀(k i:Nat),i≤s.length→s.length-i<k→
  ∃r:Int,XU N k s v (s.length:Int) (i:Int)=some r∧(0≤r↔v∈s.drop i)
 |0,i,_,h=>by omega
 |k+1,i,hi,hk=>by
  show∃r:Int,VX N (XU N k) s v (s.length:Int) (i:Int)=some r∧_;unfold VX;by_cases h:i<s.length
  ·have e:atS s (i:Int)=s[i]:=by unfold atS;rw[Int.toNat_natCast,List.getD_eq_getElem?_getD,List.getElem?_eq_getElem h];rfl
   rw[decide_eq_true (show(i:Int)<(s.length:Int)by omega),cond_true,zC.2 ⟨by omega,by omega⟩,za,e];by_cases hv:v=s[i]
   ·rw[decide_eq_true hv,cond_true];exact⟨i,rfl,fun _=>by rw[List.drop_eq_getElem_cons h,hv];exact List.mem_cons_self,fun _=>by omega⟩
   ·rw[decide_eq_false hv,cond_false,jo (by omega) (by omega),za];obtain⟨r,h1,h2⟩:=zd9 hs k (i+1) (by omega) (by omega);exact⟨r,h1,by rw[h2,List.drop_eq_getElem_cons h,List.mem_cons];simp[hv]⟩
  ·rw[decide_eq_false (show¬(i:Int)<(s.length:Int)by omega),cond_false];exact⟨-1,rfl,by rw[List.drop_of_length_le (by omega)];simp⟩
theorem zo6{N:Nat}{s:List (List UInt8)}{v:List UInt8}(hs:s.length≤1000)(hN:s.length<N):zhM N s v=some (decide (v∈s)):=by unfold zhM zwz;obtain⟨r,h1,h2⟩:=zd9 (N:=N) (v:=v) hs N 0 (by omega) (by omega);rw[show((0:Int))=((0:Nat):Int)from rfl,h1,zf];exact congrArg some (decide_eq_decide.2 h2)
def isT(ts:List Token)(i:Nat)(k:Int)(w:List (List UInt8)):Bool:=match ts[i]? with
 |some t=>decide (t.Kind=k)&&decide (t.Text∈w)
 |none=>false
theorem YB{N:Nat}{ts:List Token}{i:Nat}{k:Int}{w:List (List UInt8)}(hw:w.length≤1000)(hN:w.length<N):sIs N (tkL ts) (i:Int) k w=some (isT ts i k w):=by
 unfold sIs isT;cases h:ts[i]? with
 |none=>have:=List.getElem?_eq_none_iff.1 h;rw[decide_eq_false (by rw[zq];omega),cond_false]
 |some t=>
  have hlt:=(List.getElem?_eq_some_iff.1 h).1;have hk:=znE h;unfold znG at hk;rw[decide_eq_true (by rw[zq];omega),cond_true,hk,za,za,zW h];show cond (decide (t.Kind=k)) (bnd (zhM N w t.Text) fun rr=>some rr) (some false)=_;rw[zo6 hw hN,zf];dsimp only;by_cases hkk:t.Kind=k
  ·rw[decide_eq_true hkk,cond_true,Bool.true_and]
  ·rw[decide_eq_false hkk,cond_false,Bool.false_and]
def Wd(t:Token):Prop:=t.Kind=1→zgJ t.Text JU=true
def nmT(ts:List Token)(i:Nat):Bool:=match ts[i]? with
 |some t=>decide (t.Kind=1)&&decide (YZ t.Text Zp=0)
 |none=>false
theorem zay{s:List UInt8}(h:zgJ s JU=true):zhx s=some (YZ s Zp):=by unfold zhx;rw[h,za]
theorem zhJ{N:Nat}{ts:List Token}{i:Nat}(hw:∀t∈ts,Wd t):zhK N (tkL ts) (i:Int)=some (nmT ts i):=by
 unfold zhK nmT;cases h:ts[i]? with
 |none=>have:=List.getElem?_eq_none_iff.1 h;rw[decide_eq_false (by rw[zq];omega),cond_false]
 |some t=>
  have hlt:=(List.getElem?_eq_some_iff.1 h).1;have hk:=znE h;unfold znG at hk;rw[decide_eq_true (by rw[zq];omega),cond_true,hk,za,za,zW h];show cond (decide (t.Kind=1)) (bnd (zhx t.Text) fun rr=>some (decide (rr=0))) (some false)=_;by_cases hkk:t.Kind=1
  ·rw[decide_eq_true hkk,cond_true,zay (hw t (List.mem_of_getElem? h) hkk),zf];simp[hkk]
  ·rw[decide_eq_false hkk,cond_false];simp[hkk]
def isP(t:Token)(c:UInt8):Bool:=decide (t.Kind=5)&&decide (t.Text=[c])
def dep(t:Token)(d:Int):Int:=if isP t 40 then d+1 else if isP t 41 then d-1 else d
def prt(t:Token)(d:Int)(p:Bool):Bool:=if isP t 40 then p else if isP t 41 then p else if isP t 58&&decide (d=1)then true else p
def grpL:List Token→Int→Bool→Nat→Nat×Bool
 |[],_,_,_=>(0,false)
 |t::r,d,p,n=>if dep t d=0 then(n+1,prt t d p)else grpL r (dep t d) (prt t d p) (n+1)
def grp(ts:List Token)(i:Nat):Nat×Bool:=if isT ts i 5 [[40]]then grpL (ts.drop i) 0 false 0 else(0,false)
theorem grpL_le:∀(r:List Token)(d:Int)(p:Bool)(n:Nat),(grpL r d p n).1=0∨(n<(grpL r d p n).1∧(grpL r d p n).1≤n+r.length)
 |[],_,_,_=>.inl rfl
 |t::r,d,p,n=>by
  unfold grpL;split
  ·exact .inr ⟨by dsimp only;omega,by simp⟩
  ·rcases grpL_le r (dep t d) (prt t d p) (n+1)with h|⟨h1,h2⟩
   ·exact .inl h
   ·exact .inr ⟨by omega,by rw[List.length_cons];omega⟩
theorem Wu(ts:List Token)(i:Nat)(_hi:i≤ts.length):(grp ts i).1≤ts.length-i:=by
 unfold grp;split
 ·rcases grpL_le (ts.drop i) 0 false 0 with h|⟨_,h2⟩
  ·omega
  ·rw[List.length_drop]at h2;omega
 ·exact Nat.zero_le _
theorem zc9{ts:List Token}{i:Nat}{t:Token}(h:ts[i]? =some t)(c:UInt8):isT ts i 5 [[c]]=isP t c:=by unfold isT isP;rw[h];simp
theorem YC{N:Nat}(hN:1<N){ts:List Token}(hl:ts.length≤1000){i:Nat}:∀(k j:Nat)(d:Int)(p:Bool),i≤j→j≤ts.length→ts.length-j<k→ -(j:Int)≤d→d≤(j:Int)→
  qm N k (tkL ts) (i:Int) d p (j:Int)=some ((((grpL (ts.drop j) d p (j-i)).1:Nat):Int),(grpL (ts.drop j) d p (j-i)).2)
 |0,j,_,_,_,_,h,_,_=>by omega
 |k+1,j,d,p,hij,hj,hk,h1,h2=>by
  show YD N (qm N k) (tkL ts) (i:Int) d p (j:Int)=_;unfold YD;by_cases h:j<ts.length
  ·have hg:ts[j]? =some ts[j]:=List.getElem?_eq_getElem h;rw[decide_eq_true (by rw[zq];omega),cond_true,YB (by simp) hN,zf,YB (by simp) hN,zf,YB (by simp) hN,zf,zc9 hg,zc9 hg,zc9 hg];rw[List.drop_eq_getElem_cons h];generalize ts[j]=t;have fin:∀(d':Int)(p':Bool),d'=dep t d→p'=prt t d p→yR N (qm N k) (tkL ts) (i:Int) d' p' (j:Int)=
     some ((((grpL (t::ts.drop (j+1)) d p (j-i)).1:Nat):Int),(grpL (t::ts.drop (j+1)) d p (j-i)).2):=by
    intro d' p' hd hp;have hb: -(j:Int)-1≤d'∧d'≤(j:Int)+1:=by rw[hd];unfold dep;(repeat' split)<;>omega
    unfold yR grpL;rw[←hd,←hp,jo (by omega) (by omega)];by_cases h0:d'=0
    ·rw[decide_eq_true h0,cond_true,if_pos h0,za,jo (by omega) (by omega),za];refine congrArg some (Prod.ext ?_ rfl);dsimp only;omega
    ·rw[decide_eq_false h0,cond_false,if_neg h0,za];have:=YC hN hl (i:=i) k (j+1) d' p' (by omega) (by omega) (by omega) (by omega) (by omega);rw[show j+1-i=j-i+1 by omega]at this;exact this
   cases ha:isP t 40 with
   |true=>rw[cond_true,jo (by omega) (by omega),za];exact fin _ _ (by unfold dep;rw[ha];rfl) (by unfold prt;rw[ha];rfl)
   |false=>
    rw[cond_false];cases hb:isP t 41 with
    |true=>rw[cond_true,jo (by omega) (by omega),za];exact fin _ _ (by unfold dep;rw[ha,hb];rfl) (by unfold prt;rw[ha,hb];rfl)
    |false=>
     rw[cond_false];have hd:d=dep t d:=by unfold dep;rw[ha,hb];rfl
     cases hc:isP t 58 with
     |true=>
      rw[cond_true];by_cases h1:d=1
      ·rw[decide_eq_true h1,cond_true];exact fin _ _ hd (by unfold prt;rw[ha,hb,hc,decide_eq_true h1];rfl)
      ·rw[decide_eq_false h1,cond_false];exact fin _ _ hd (by unfold prt;rw[ha,hb,hc,decide_eq_false h1];rfl)
     |false=>rw[cond_false];exact fin _ _ hd (by unfold prt;rw[ha,hb,hc];rfl)
  ·rw[decide_eq_false (by rw[zq];omega),cond_false,List.drop_of_length_le (by omega)];rfl
theorem zea{N:Nat}(hN:1<N){ts:List Token}(hl:ts.length≤1000)(hN2:ts.length<N){i:Nat}(hi:i≤ts.length):zcw N (tkL ts) (i:Int)=some (((grp ts i).1:Int),(grp ts i).2):=by
 unfold zcw grp;rw[YB (by simp) hN,zf];cases isT ts i 5 [[40]]with
 |false=>rfl
 |true=>
  rw[Bool.not_true,cond_false,if_pos rfl];by_cases h0:i=0
  ·subst h0;exact YC hN hl N 0 0 false (Nat.le_refl _) hi (by omega) (by omega) (by omega)
  ·have:=YC hN hl (i:=i) N i 0 false (Nat.le_refl _) hi (by omega) (by omega) (by omega);rw[Nat.sub_self]at this;exact this
def ofN(ts:List Token):Nat→Nat→Nat
 |0,n=>n
 |k+1,n=>if isT ts n 1 [[79,70],[73,78]]&&nmT ts (n+1)then ofN ts k (n+2)else n
def opG(ts:List Token)(n:Nat):Nat:=if 0<(grp ts n).1∧(grp ts n).2=false then(if(grp ts (n+(grp ts n).1)).2 then n+(grp ts n).1+(grp ts (n+(grp ts n).1)).1 else n+(grp ts n).1)else n+(grp ts n).1
def opd(ts:List Token):Nat×Int:=
 if nmT ts 0 then(opG ts (ofN ts ts.length 1),0)
 else match ts[0]? with
  |none=>(0,4)
  |some t=>if t.Kind=2∨t.Kind=3∨(t.Kind=1∧YZ t.Text Zp=3)then(1,0)else(0,4)
theorem zj8{ts:List Token}{i:Nat}(h:nmT ts i=true):i<ts.length:=by
 unfold nmT at h;split at h
 ·rename_i t ht;exact (List.getElem?_eq_some_iff.1 ht).1
 ·cases h
theorem zqU{ts:List Token}{n:Nat}(h1:1≤n)(hn:n≤ts.length):1≤opG ts n∧opG ts n≤ts.length:=by
 have g1:=Wu ts n hn;have g2:=Wu ts (n+(grp ts n).1) (by omega);unfold opG;split
 ·split<;>omega
 ·omega
theorem Q7{N:Nat}(hN:1<N){ts:List Token}(hl:ts.length≤1000)(hN2:ts.length<N){n:Nat}(hn:n≤ts.length):qM N (tkL ts) (n:Int)=some ((opG ts n:Int),0):=by
 have g1:=Wu ts n hn;have g2:=Wu ts (n+(grp ts n).1) (by omega);unfold qM;rw[zea hN hl hN2 hn,zf];dsimp only;rw[jo (by omega) (by omega),za,show(n:Int)+((grp ts n).1:Int)=((n+(grp ts n).1:Nat):Int)by omega];have k1:∀b:Bool,qL N (tkL ts) ((n+(grp ts n).1:Nat):Int) b=some (((if b=true then(if(grp ts (n+(grp ts n).1)).2 then n+(grp ts n).1+(grp ts (n+(grp ts n).1)).1 else n+(grp ts n).1)else n+(grp ts n).1:Nat):Int),0):=by
  intro b;unfold qL;cases b with
  |false=>rw[cond_false,if_neg (by simp)]
  |true=>
   rw[cond_true,if_pos rfl,zea hN hl hN2 (by omega),zf];dsimp only;rw[jo (by omega) (by omega),za];cases(grp ts (n+(grp ts n).1)).2 with
   |true=>rw[cond_true,if_pos rfl];exact congrArg some (Prod.ext (by dsimp only;omega) rfl)
   |false=>rw[cond_false,if_neg (by simp)]
 by_cases h0:0<(grp ts n).1
 ·rw[decide_eq_true (show(0:Int)<((grp ts n).1:Int)by omega),cond_true,k1];unfold opG;cases(grp ts n).2 with
  |true=>simp
  |false=>simp[h0]
 ·rw[decide_eq_false (show¬(0:Int)<((grp ts n).1:Int)by omega),cond_false,k1,if_neg (by simp)];unfold opG;rw[if_neg (fun h=>h0 h.1)]
theorem Q6{N:Nat}(hN:2<N){ts:List Token}(hl:ts.length≤1000)(hN2:ts.length<N)(hw:∀t∈ts,Wd t):∀(k f n:Nat),1≤n→n≤ts.length→ts.length-n<k→ts.length-n<f+1→
  ∃m,ofN ts f n=m∧1≤m∧m≤ts.length∧qK N k (tkL ts) (n:Int)=some ((opG ts m:Int),0)
 |0,_,n,_,_,h,_=>by omega
 |k+1,f,n,h1,hn,hk,hf=>by
  show∃m,_∧_∧_∧Z7 N (qK N k) (tkL ts) (n:Int)=_;unfold Z7;rw[YB (by simp) (by simpa using hN),zf];have stop:∀f',(isT ts n 1 [[79,70],[73,78]]&&nmT ts (n+1))=false→ofN ts f' n=n:=by
   intro f' h;cases f' with
   |zero=>rfl
   |succ f'=>unfold ofN;rw[h];rfl
  cases ha:isT ts n 1 [[79,70],[73,78]]with
  |false=>rw[cond_false];exact⟨n,stop f (by rw[ha];rfl),h1,hn,Q7 (by omega) hl hN2 hn⟩
  |true=>
   rw[cond_true,jo (by omega) (by omega),za,show(n:Int)+1=((n+1:Nat):Int)from rfl,zhJ hw,zf];cases hb:nmT ts (n+1)with
   |false=>rw[cond_false];exact⟨n,stop f (by rw[hb,Bool.and_false]),h1,hn,Q7 (by omega) hl hN2 hn⟩
   |true=>
    have:=zj8 hb;rw[cond_true,jo (by omega) (by omega),za,show(n:Int)+2=((n+2:Nat):Int)from rfl];cases f with
    |zero=>omega
    |succ f=>obtain⟨m,g1,g2,g3,g4⟩:=Q6 hN hl hN2 hw k f (n+2) (by omega) (by omega) (by omega) (by omega);refine⟨m,?_,g2,g3,g4⟩;unfold ofN;rw[ha,hb];exact g1
theorem opd_ok{ts:List Token}:((opd ts).2=0∧1≤(opd ts).1∧(nmT ts 0=false→(opd ts).1=1∧1≤ts.length))∨((opd ts).2=4∧(opd ts).1=0):=by
 unfold opd;have ofl:∀(k n:Nat),1≤n→1≤ofN ts k n:=by
  intro k;induction k with
  |zero=>intro n h;exact h
  |succ k ih=>intro n h;unfold ofN;split;{exact ih _ (by omega)};exact h
 split
 ·rename_i h0;refine .inl ⟨rfl,?_,fun h=>by rw[h0]at h;cases h⟩;have:=ofl ts.length 1 (Nat.le_refl _);dsimp only;unfold opG
  (repeat' split)<;>omega
 ·split
  ·exact .inr ⟨rfl,rfl⟩
  ·rename_i t ht;split
   ·exact .inl ⟨rfl,Nat.le_refl _,fun _=>⟨rfl,by have:=(List.getElem?_eq_some_iff.1 ht).1;omega⟩⟩
   ·exact .inr ⟨rfl,rfl⟩
theorem YA{N:Nat}(hN:2<N){ts:List Token}(hl:ts.length≤1000)(hN2:ts.length<N)(hw:∀t∈ts,Wd t):Zv N (tkL ts)=some (((opd ts).1:Int),(opd ts).2)∧(opd ts).1≤ts.length:=by
 unfold Zv opd;rw[show((0:Int))=((0:Nat):Int)from rfl,zhJ hw,zf];cases h0:nmT ts 0 with
 |true=>have hlt:=zj8 h0;rw[Bool.not_true,cond_false,if_pos rfl];obtain⟨m,g1,g2,g3,g4⟩:=Q6 hN hl hN2 hw N ts.length 1 (Nat.le_refl _) (by omega) (by omega) (by omega);rw[g1];exact⟨g4,(zqU g2 g3).2⟩
 |false=>
  rw[Bool.not_false,cond_true,if_neg (by simp)];cases h:ts[0]? with
  |none=>have:=List.getElem?_eq_none_iff.1 h;rw[decide_eq_true (show((tkL ts).length:Int)=((0:Nat):Int)by rw[zq];omega),cond_true];exact⟨rfl,Nat.zero_le _⟩
  |some t=>
   have hlt:=(List.getElem?_eq_some_iff.1 h).1;have hk:=znE h;unfold znG at hk;rw[decide_eq_false (show¬((tkL ts).length:Int)=((0:Nat):Int)by rw[zq];omega),cond_false,hk];simp only[za];rw[zW h];show cond (!decide (t.Kind=2)) (cond (!decide (t.Kind=3)) (cond (!decide (t.Kind=1)) (some (((0:Nat):Int),(4:Int))) (bnd (zhx t.Text) fun rr1=>cond (!decide (rr1=3)) (some (((0:Nat):Int),4)) (some (1,((0:Nat):Int))))) (some (1,((0:Nat):Int)))) (some (1,((0:Nat):Int)))=_∧_;by_cases h2:t.Kind=2
   ·rw[decide_eq_true h2,Bool.not_true,cond_false,if_pos (.inl h2)];exact⟨rfl,by dsimp only;omega⟩
   ·rw[decide_eq_false h2,Bool.not_false,cond_true];by_cases h3:t.Kind=3
    ·rw[decide_eq_true h3,Bool.not_true,cond_false,if_pos (.inr (.inl h3))];exact⟨rfl,by dsimp only;omega⟩
    ·rw[decide_eq_false h3,Bool.not_false,cond_true];by_cases h1:t.Kind=1
     ·rw[decide_eq_true h1,Bool.not_true,cond_false,zay (hw t (List.mem_of_getElem? h) h1),zf];by_cases h4:YZ t.Text Zp=3
      ·rw[decide_eq_true h4,Bool.not_true,cond_false,if_pos (.inr (.inr ⟨h1,h4⟩))];exact⟨rfl,by dsimp only;omega⟩
      ·rw[decide_eq_false h4,Bool.not_false,cond_true,if_neg (by simp[h1,h4])];exact⟨rfl,Nat.zero_le _⟩
     ·rw[decide_eq_false h1,Bool.not_false,cond_true,if_neg (by simp[h1,h2,h3])];exact⟨rfl,Nat.zero_le _⟩
end Go.Proofs.C06
end
section
namespace Go.Sp
structure Lx(T:Type) where
 lp:T→Bool
 rp:T→Bool
 pm:T→Bool
 md:T→Bool
 pw:T→Bool
 opl:List T→Nat
 ap:∀t,(lp t=true→rp t=false∧pm t=false∧md t=false∧pw t=false)∧(rp t=true→pm t=false∧md t=false∧pw t=false)∧(pm t=true→md t=false∧pw t=false)∧(md t=true→pw t=false)
 le:∀l,opl l≤l.length
 tr:∀p s,opl (p++s)=p.length→opl p=p.length
 ex:∀p t s,p≠[]→opl p=p.length→(rp t||(pm t||(md t||pw t)))=true→opl (p++t::s)=p.length
 sg:∀t s,(lp t||(rp t||(pm t||(md t||pw t))))=true→opl (t::s)=0
inductive Ex(T:Type) where
 |leaf (l:List T)
 |sgn (t:T) (e:Ex T)
 |par (o c:T) (e:Ex T)
 |bin (t:T) (a b:Ex T)
namespace Ex
variable {T : Type}
def toks:Ex T→List T
 |leaf l=>l
 |sgn t e=>t::e.toks
 |par o c e=>o::(e.toks++[c])
 |bin t a b=>a.toks++t::b.toks
def deep:Ex T→Nat
 |leaf _=>0
 |sgn _ e=>e.deep
 |par _ _ e=>e.deep+1
 |bin _ a b=>max a.deep b.deep
theorem deep_le:∀e:Ex T,2*e.deep≤e.toks.length
 |leaf _=>by simp[deep]
 |sgn _ e=>by have:=deep_le e;simp only[deep,toks,List.length_cons];omega
 |par _ _ e=>by have:=deep_le e;simp only[deep,toks,List.length_cons,List.length_append,List.length_nil];omega
 |bin _ a b=>by have:=deep_le a;have:=deep_le b;simp only[deep,toks,List.length_cons,List.length_append];omega
end Ex
variable {T : Type} (L : Lx T)
def opk:Nat→T→Bool
 |0,t=>L.pm t
 |1,t=>L.md t
 |_,t=>L.pw t
def jS(t:T):Bool:=L.pm t||(L.md t||L.pw t)
inductive G:Nat→Ex T→Prop where
 |leaf {l:List T}:l≠[]→L.opl l=l.length→G 4 (.leaf l)
 |par {o c:T} {e:Ex T}:L.lp o=true→L.rp c=true→G 0 e→G 4 (.par o c e)
 |sgn {t:T} {e:Ex T}:L.pm t=true→G 4 e→G 3 (.sgn t e)
 |bin {k:Nat} {t:T} {a b:Ex T}:k≤2→opk L k t=true→G k a→G (k+1) b→G k (.bin t a b)
 |up {k:Nat} {e:Ex T}:k≤3→G (k+1) e→G k e
variable {L}
theorem G.down{e:Ex T}:∀{j k:Nat},j≤k→k≤4→G L k e→G L j e:=by
 intro j k h;induction k with
 |zero=>
   intro _ hg;obtain rfl:j=0:=by omega
   exact hg
 |succ k ih=>
  intro hk hg;by_cases e:j=k+1
  ·subst e;exact hg
  ·exact ih (by omega) (by omega) (G.up (by omega) hg)
theorem G.ne{k:Nat}{e:Ex T}(h:G L k e):e.toks≠[]:=by
 induction h with
 |leaf h _=>exact h
 |par=>simp[Ex.toks]
 |sgn=>simp[Ex.toks]
 |bin=>simp[Ex.toks]
 |up _ _ ih=>exact ih
def Stop(L:Lx T)(k:Nat)(s:List T):Prop:=s=[]∨∃t r,s=t::r∧(L.rp t=true∨(jS L t=true∧∀j,k≤j→j≤2→opk L j t=false))
theorem opk_any{t:T}:∀{k:Nat},opk L k t=true→jS L t=true
 |0,h=>by have h:L.pm t=true:=h;unfold jS;rw[h];rfl
 |1,h=>by have h:L.md t=true:=h;unfold jS;rw[h];simp
 |k+2,h=>by have h:L.pw t=true:=h;unfold jS;rw[h];simp
theorem zgr{t:T}{k j:Nat}(h:opk L k t=true)(hj:j≠k)(hk:k≤2)(hj2:j≤2):opk L j t=false:=by
 obtain⟨_,_,h3,h4⟩:=L.ap t
 match k,j,hk,hj2 with
 |0,0,_,_=>exact absurd rfl hj
 |0,1,_,_=>exact (h3 h).1
 |0,2,_,_=>exact (h3 h).2
 |1,1,_,_=>exact absurd rfl hj
 |2,2,_,_=>exact absurd rfl hj
 |1,0,_,_=>
  cases e:L.pm t with
  |false=>exact e
  |true=>have:=(h3 e).1;have h:L.md t=true:=h;rw[this]at h;cases h
 |1,2,_,_=>exact h4 h
 |2,0,_,_=>
  cases e:L.pm t with
  |false=>exact e
  |true=>have:=(h3 e).2;have h:L.pw t=true:=h;rw[this]at h;cases h
 |2,1,_,_=>
  cases e:L.md t with
  |false=>exact e
  |true=>have:=h4 e;have h:L.pw t=true:=h;rw[this]at h;cases h
theorem zaL{t:T}(h:jS L t=true):L.lp t=false∧L.rp t=false:=by
 obtain⟨h1,h2,h3,h4⟩:=L.ap t;unfold jS at h;constructor
 ·cases e:L.lp t with
  |false=>rfl
  |true=>obtain⟨_,a,b,c⟩:=h1 e;rw[a,b,c]at h;cases h
 ·cases e:L.rp t with
  |false=>rfl
  |true=>obtain⟨a,b,c⟩:=h2 e;rw[a,b,c]at h;cases h
inductive R(T:Type) where
 |ok (e:Ex T) (r:List T)
 |err (lim:Bool)
def ZK(op:T→Bool)(operand:List T→R T):Nat→Ex T→List T→R T
 |0,_,_=>.err false
 |n+1,left,r=>match r with
  |[]=>.ok left []
  |t::r'=>match op t with
   |true=>match operand r' with
    |.ok b r''=>ZK op operand n (.bin t left b) r''
    |.err l=>.err l
   |false=>.ok left (t::r')
def Qm(op:T→Bool)(operand:List T→R T)(r:List T):R T:=match operand r with
 |.ok e r'=>ZK op operand (r'.length+1) e r'
 |.err l=>.err l
def qv(L:Lx T)(sum:Option (List T→R T))(r:List T):R T:=match r with
 |[]=>.err false
 |t::r'=>match L.lp t with
  |true=>match sum with
   |none=>.err true
   |some f=>match f r' with
    |.ok e (c::r'')=>match L.rp c with
     |true=>.ok (.par t c e) r''
     |false=>.err false
    |.ok _ []=>.err false
    |.err l=>.err l
  |false=>match L.opl (t::r')with
   |0=>.err false
   |n+1=>.ok (.leaf ((t::r').take (n+1))) ((t::r').drop (n+1))
def XT(L:Lx T)(sum:Option (List T→R T))(r:List T):R T:=match r with
 |[]=>.err false
 |t::r'=>match L.pm t with
  |true=>match qv L sum r' with
   |.ok e r''=>.ok (.sgn t e) r''
   |.err l=>.err l
  |false=>qv L sum (t::r')
def ZB(L:Lx T)(sum:Option (List T→R T)):Nat→List T→R T
 |0=>XT L sum
 |k+1=>Qm (opk L (2-k)) (ZB L sum k)
def VS(L:Lx T):Nat→List T→R T
 |0=>ZB L none 3
 |d+1=>ZB L (some (VS L d)) 3
end Go.Sp
end
section
namespace Go.Sp
variable {T : Type} {L : Lx T}
def Rd(L:Lx T)(k:Nat)(r:List T)(e:Ex T)(r':List T):Prop:=G L k e∧r=e.toks++r'∧∀t q,r'=t::q→∀j,k≤j→j≤2→opk L j t=false
theorem WW{sum:Option (List T→R T)}(hs:∀f,sum=some f→∀r e r',f r=.ok e r'→Rd L 0 r e r'){r:List T}{e:Ex T}{r':List T}(h:qv L sum r=.ok e r'):G L 4 e∧r=e.toks++r':=by
 unfold qv at h;split at h
 ·cases h
 ·rename_i t q;split at h
  ·rename_i hl;split at h
   ·cases h
   ·rename_i f;split at h
    ·rename_i e' c q' hf;split at h
     ·rename_i hc;cases h;obtain⟨g1,g2,_⟩:=hs f rfl _ _ _ hf;exact⟨.par hl hc g1,by rw[g2];simp[Ex.toks]⟩
     ·cases h
    ·cases h
    ·cases h
  ·split at h
   ·cases h
   ·rename_i n hn;cases h;have hle:=L.le (t::q);rw[hn]at hle;have e1:((t::q).take (n+1)).length=n+1:=by rw[List.length_take];omega
    refine⟨.leaf (fun h=>by rw[h]at e1;cases e1) ?_,(List.take_append_drop _ _).symm⟩;rw[L.tr ((t::q).take (n+1)) ((t::q).drop (n+1)) (by rw[List.take_append_drop,hn,e1])]
theorem zji{sum:Option (List T→R T)}(hs:∀f,sum=some f→∀r e r',f r=.ok e r'→Rd L 0 r e r'){r:List T}{e:Ex T}{r':List T}(h:XT L sum r=.ok e r'):Rd L 3 r e r':=by
 have hv:∀t q,r'=t::q→∀j,3≤j→j≤2→opk L j t=false:=fun _ _ _ j h1 h2=>by omega
 unfold XT at h;split at h
 ·cases h
 ·rename_i t q;split at h
  ·rename_i hp;split at h
   ·rename_i e' q' hf;cases h;obtain⟨g1,g2⟩:=WW hs hf;exact⟨.sgn hp g1,by rw[g2];rfl,hv⟩
   ·cases h
  ·obtain⟨g1,g2⟩:=WW hs h;exact⟨.up (Nat.le_refl _) g1,g2,hv⟩
theorem VG{k:Nat}(hk:k≤2){operand:List T→R T}(ho:∀r e r',operand r=.ok e r'→Rd L (k+1) r e r'):∀(n:Nat)(l:Ex T)(r:List T)(e:Ex T)(r':List T),G L k l→
  (∀t q,r=t::q→∀j,k+1≤j→j≤2→opk L j t=false)→ZK (opk L k) operand n l r=.ok e r'→G L k e∧l.toks++r=e.toks++r'∧∀t q,r'=t::q→∀j,k≤j→j≤2→opk L j t=false
 |0,_,_,_,_,_,_,h=>by cases h
 |n+1,l,r,e,r',hg,hn,h=>by
  unfold ZK at h;split at h
  ·cases h;exact⟨hg,rfl,fun t q e=>by cases e⟩
  ·rename_i t q;split at h
   ·rename_i hop;split at h
    ·rename_i b q' hb;obtain⟨g1,g2,g3⟩:=ho _ _ _ hb;obtain⟨f1,f2,f3⟩:=VG hk ho n _ _ _ _ (.bin hk hop hg g1) g3 h;refine⟨f1,?_,f3⟩;rw[←f2,g2];simp[Ex.toks]
    ·cases h
   ·rename_i hop;cases h;refine⟨hg,rfl,fun u p e j h1 h2=>?_⟩;cases e;by_cases hj:j=k
    ·subst hj;exact hop
    ·exact hn t q rfl j (by omega) h2
theorem Wi{sum:Option (List T→R T)}(hs:∀f,sum=some f→∀r e r',f r=.ok e r'→Rd L 0 r e r'):∀(k:Nat),k≤3→∀r e r',ZB L sum k r=.ok e r'→Rd L (3-k) r e r'
 |0,_,r,e,r',h=>zji hs h
 |k+1,hk,r,e,r',h=>by
  have ih:=Wi hs k (by omega);have e0:3-k=(2-k)+1:=by omega
  rw[e0]at ih;have h:Qm (opk L (2-k)) (ZB L sum k) r=.ok e r':=h;unfold Qm at h;split at h
  ·rename_i e1 q1 h1;obtain⟨g1,g2,g3⟩:=ih _ _ _ h1;obtain⟨f1,f2,f3⟩:=VG (k:=2-k) (by omega) ih _ _ _ _ _ (.up (by omega) g1) g3 h;have e2:3-(k+1)=2-k:=by omega
   rw[e2];exact⟨f1,by rw[g2,f2],f3⟩
  ·cases h
theorem zd4:∀(d:Nat) r e r',VS L d r=.ok e r'→Rd L 0 r e r'
 |0,r,e,r',h=>Wi (sum:=none) (fun f e=>by cases e) 3 (Nat.le_refl _) r e r' h
 |d+1,r,e,r',h=>Wi (sum:=some (VS L d)) (fun f e=>by cases e;exact zd4 d) 3 (Nat.le_refl _) r e r' h
def Yq(L:Lx T):Nat→Option (List T→R T)
 |0=>none
 |d+1=>some (VS L d)
theorem zco(d:Nat):VS L d=ZB L (Yq L d) 3:=by cases d<;>rfl
theorem Stop.any{k:Nat}{s:List T}(h:Stop L k s):s=[]∨∃t r,s=t::r∧(L.rp t||(L.pm t||(L.md t||L.pw t)))=true:=by
 rcases h with h|⟨t,r,e,h|h⟩
 ·exact .inl h
 ·exact .inr ⟨t,r,e,by rw[h];rfl⟩
 ·exact .inr ⟨t,r,e,by have:=h.1;unfold jS at this;rw[this];simp⟩
theorem Stop.up{k:Nat}{s:List T}(h:Stop L k s):Stop L (k+1) s:=by
 rcases h with h|⟨t,r,e,h|h⟩
 ·exact .inl h
 ·exact .inr ⟨t,r,e,.inl h⟩
 ·exact .inr ⟨t,r,e,.inr ⟨h.1,fun j h1 h2=>h.2 j (by omega) h2⟩⟩
theorem Stop.no{k:Nat}(hk:k≤2){t:T}{r:List T}(h:Stop L k (t::r)):opk L k t=false:=by
 rcases h with h|⟨u,q,e,h|h⟩
 ·cases h
 ·cases e;cases ho:opk L k t with
  |false=>rfl
  |true=>have:=(zaL (opk_any ho)).2;rw[this]at h;cases h
 ·cases e;exact h.2 k (Nat.le_refl _) hk
theorem zr3{k:Nat}(hk:k≤2){t:T}{r:List T}(h:opk L k t=true):Stop L (k+1) (t::r):=
 .inr ⟨t,r,rfl,.inr ⟨opk_any h,fun j h1 h2=>zgr h (by omega) hk h2⟩⟩
theorem Jq{t:T}{q:List T}(h:L.opl (t::q)=(t::q).length):L.lp t=false∧L.pm t=false∧jS L t=false∧L.rp t=false:=by
 have k:(L.lp t||(L.rp t||(L.pm t||(L.md t||L.pw t))))=false:=by
  cases e:(L.lp t||(L.rp t||(L.pm t||(L.md t||L.pw t))))with
  |false=>rfl
  |true=>rw[L.sg t q e]at h;cases h
 simp only[Bool.or_eq_false_iff]at k;exact⟨k.1,k.2.2.1,by unfold jS;rw[k.2.2.1,k.2.2.2.1,k.2.2.2.2];rfl,k.2.1⟩
theorem zu7{l s:List T}{k:Nat}(h0:l≠[])(h:L.opl l=l.length)(hs:Stop L k s):L.opl (l++s)=l.length:=by
 rcases hs.any with rfl|⟨t,r,rfl,ht⟩
 ·rw[List.append_nil,h]
 ·exact L.ex l t r h0 h ht
theorem zrI:∀(d:Nat){k:Nat}{e:Ex T},G L k e→e.deep≤d→∀s,(k=4→∀j,Stop L j s→qv L (Yq L d) (e.toks++s)=.ok e s)∧
  (k=3→∀j,Stop L j s→XT L (Yq L d) (e.toks++s)=.ok e s)∧(k≤2→Stop L (k+1) s→∃m,s.length<m∧ZB L (Yq L d) (3-k) (e.toks++s)=ZK (opk L k) (ZB L (Yq L d) (2-k)) m e s):=by
 have fin:∀(d k:Nat)(e:Ex T)(s:List T),k≤2→Stop L k s→(∃m,s.length<m∧ZB L (Yq L d) (3-k) (e.toks++s)=ZK (opk L k) (ZB L (Yq L d) (2-k)) m e s)→ZB L (Yq L d) (3-k) (e.toks++s)=.ok e s:=by
  intro d k e s hk hs ⟨m,hm,h⟩;rw[h];obtain⟨m,rfl⟩:∃n,m=n+1:=⟨m-1,by omega⟩
  unfold ZK;cases s with
  |nil=>rfl
  |cons t r=>dsimp only;rw[hs.no hk]
 intro d;induction d using Nat.strongRecOn with
 |_ d ihd=>
 intro k e hg;induction hg with
 | @leaf l h0 h=>
  intro _ s;refine⟨fun _ j hs=>?_,fun h=>by omega,fun h=>by omega⟩;have ho:=zu7 h0 h hs;cases l with
  |nil=>exact absurd rfl h0
  |cons t q=>obtain⟨h1,_,_,_⟩:=Jq h;show qv L _ (t::(q++s))=_;unfold qv;dsimp only;rw[h1];dsimp only;have ho:L.opl (t::(q++s))=q.length+1:=ho;rw[ho];dsimp only;rw[List.take_succ_cons,List.drop_succ_cons,List.take_left,List.drop_left]
 | @par o c e ho hc hg ih=>
  intro hd s;refine⟨fun _ j hs=>?_,fun h=>by omega,fun h=>by omega⟩;have hd:e.deep+1≤d:=hd;obtain⟨d,rfl⟩:∃n,d=n+1:=⟨d-1,by omega⟩
  have h1:Stop L 0 (c::s):=.inr ⟨c,s,rfl,.inl hc⟩;have h2:=fin d 0 e (c::s) (by omega) h1 ((ihd d (by omega) hg (by omega) (c::s)).2.2 (by omega) h1.up);have e1:(Ex.par o c e).toks++s=o::(e.toks++c::s):=by simp[Ex.toks]
  rw[e1];unfold qv;dsimp only;rw[ho];dsimp only[Yq];rw[zco,show ZB L (Yq L d) 3 (e.toks++c::s)=.ok e (c::s)from h2];dsimp only;rw[hc]
 | @sgn t e hp hg ih=>intro hd s;refine⟨fun h=>by omega,fun _ j hs=>?_,fun h=>by omega⟩;have h1:=(ih hd s).1 rfl j hs;show XT L _ (t::(e.toks++s))=_;unfold XT;dsimp only;rw[hp];dsimp only;rw[h1]
 | @bin k t a b hk ho ha hb iha ihb=>
  intro hd s;refine⟨fun h=>by omega,fun h=>by omega,fun _ hs=>?_⟩;have hda:a.deep≤d:=Nat.le_trans (Nat.le_max_left _ _) hd;have hdb:b.deep≤d:=Nat.le_trans (Nat.le_max_right _ _) hd;obtain⟨m,hm,h1⟩:=(iha hda (t::(b.toks++s))).2.2 hk (zr3 hk ho);obtain⟨m,rfl⟩:∃n,m=n+1:=⟨m-1,by omega⟩
  have h2:ZB L (Yq L d) (2-k) (b.toks++s)=.ok b s:=by
   by_cases h3:k+1=3
   ·have:=(ihb hdb s).2.1 h3 (k+1) hs;have e0:2-k=0:=by omega
    rw[e0];exact this
   ·have:=fin d (k+1) b s (by omega) hs ((ihb hdb s).2.2 (by omega) hs.up);have e0:3-(k+1)=2-k:=by omega
    rw[e0]at this;exact this
  refine⟨m,by simp only[List.length_cons,List.length_append]at hm;omega,?_⟩;have e1:(Ex.bin t a b).toks++s=a.toks++t::(b.toks++s):=by simp[Ex.toks]
  rw[e1,h1];show(match opk L k t with
   |true=>match ZB L (Yq L d) (2-k) (b.toks++s)with
    |.ok b r''=>ZK (opk L k) (ZB L (Yq L d) (2-k)) m (.bin t a b) r''
    |.err l=>.err l
   |false=>.ok a (t::(b.toks++s)))=_
  rw[ho,h2]
 | @up k e hk hg ih=>
  intro hd s;obtain⟨i1,i2,i3⟩:=ih hd s;refine⟨fun h=>by omega,fun h j hs=>?_,fun h hs=>?_⟩
  ·
    subst h;have h1:=i1 rfl j hs;have hh:∀t q,e.toks++s=t::q→L.pm t=false:=by
     intro t q heq;cases hg with
     | @leaf l h0 h=>
      cases l with
      |nil=>exact absurd rfl h0
      |cons u p=>have heq:u::(p++s)=t::q:=heq;cases heq;exact (Jq h).2.1
     |par ho hc hz=>rename_i o c e';have heq:o::((e'.toks++[c])++s)=t::q:=heq;cases heq;exact ((L.ap _).1 ho).2.1
     |bin h _ _ _=>omega
     |up h _=>omega
    unfold XT;cases hx:e.toks++s with
    |nil=>
     have:=congrArg List.length hx;have h0:=hg.ne;rw[List.length_append]at this;cases he:e.toks with
     |nil=>exact absurd he h0
     |cons _ _=>rw[he]at this;simp at this
    |cons t q=>dsimp only;rw[hh t q hx];dsimp only;rw[←hx];exact h1
  ·
    have h2:ZB L (Yq L d) (2-k) (e.toks++s)=.ok e s:=by
     by_cases h3:k+1=3
     ·have:=i2 h3 (k+1) hs;have e0:2-k=0:=by omega
      rw[e0];exact this
     ·have:=fin d (k+1) e s (by omega) hs (i3 (by omega) hs.up);have e0:3-(k+1)=2-k:=by omega
      rw[e0]at this;exact this
    refine⟨s.length+1,by omega,?_⟩;have e1:ZB L (Yq L d) (3-k) (e.toks++s)=Qm (opk L k) (ZB L (Yq L d) (2-k)) (e.toks++s):=by
     have e0:3-k=(2-k)+1:=by omega
     rw[e0];show Qm (opk L (2-(2-k))) _ _=_;have e2:2-(2-k)=k:=by omega
     rw[e2]
    rw[e1];unfold Qm;rw[h2]
theorem ze1{d:Nat}{e:Ex T}(h:G L 0 e)(hd:e.deep≤d){s:List T}(hs:Stop L 0 s):VS L d (e.toks++s)=.ok e s:=by
 obtain⟨m,hm,h1⟩:=(zrI d h hd s).2.2 (by omega) hs.up;rw[zco];show ZB L (Yq L d) (3-0) (e.toks++s)=_;rw[h1];obtain⟨m,rfl⟩:∃n,m=n+1:=⟨m-1,by omega⟩
 unfold ZK;cases s with
 |nil=>rfl
 |cons t r=>dsimp only;rw[hs.no (by omega)]
end Go.Sp
end
section
namespace Go.Sp
variable {T : Type} {L : Lx T}
def sc(L:Lx T):Nat→List T→Nat→Bool→Option (List Bool)
 |0,_,_,_=>none
 |n+1,l,d,b=>match l with
  |[]=>if b=true∧d=0 then some []else none
  |t::r=>
   if b=false∧L.lp t=true then(sc L n r (d+1) false).map (false:: ·)
   else if b=true∧L.rp t=true then(match d with
    |0=>none
    |d+1=>(sc L n r d true).map (false:: ·))
   else if b=true∧jS L t=true then(sc L n r d false).map (decide (d=0):: ·)
   else if b=false∧L.pm t=true then(match r with
    |[]=>none
    |u::_=>if L.pm u=true then none else(sc L n r d false).map (false:: ·))
   else if b=true∨L.opl (t::r)=0 then none
   else(sc L n (r.drop (L.opl (t::r)-1)) d true).map (List.replicate (L.opl (t::r)) false++ ·)
theorem zcu(n d:Nat)(b:Bool):sc L (n+1) [] d b=if b=true∧d=0 then some []else none:=rfl
theorem jU(n d:Nat)(b:Bool)(t:T)(r:List T):sc L (n+1) (t::r) d b=(if b=false∧L.lp t=true then(sc L n r (d+1) false).map (false:: ·)
 else if b=true∧L.rp t=true then(match d with
  |0=>none
  |d+1=>(sc L n r d true).map (false:: ·))
 else if b=true∧jS L t=true then(sc L n r d false).map (decide (d=0):: ·)
 else if b=false∧L.pm t=true then(match r with
  |[]=>none
  |u::_=>if L.pm u=true then none else(sc L n r d false).map (false:: ·))
 else if b=true∨L.opl (t::r)=0 then none
 else(sc L n (r.drop (L.opl (t::r)-1)) d true).map (List.replicate (L.opl (t::r)) false++ ·)):=rfl
def zvO(L:Lx T)(s:List T):Prop:=s=[]∨∃t r,s=t::r∧(L.rp t||(L.pm t||(L.md t||L.pw t)))=true
theorem zvf{t:T}{r:List T}(h:jS L t=true):zvO L (t::r):=.inr ⟨t,r,rfl,by unfold jS at h;rw[h];simp⟩
theorem zve{t:T}{r:List T}(h:L.rp t=true):zvO L (t::r):=.inr ⟨t,r,rfl,by rw[h];rfl⟩
theorem zqS{l s:List T}(h0:l≠[])(h:L.opl l=l.length)(hs:zvO L s):L.opl (l++s)=l.length:=by
 rcases hs with rfl|⟨t,r,rfl,ht⟩
 ·rw[List.append_nil,h]
 ·exact L.ex l t r h0 h ht
def outs(L:Lx T):Ex T→List Bool
 |.leaf l=>List.replicate l.length false
 |.sgn _ e=>List.replicate (e.toks.length+1) false
 |.par _ _ e=>List.replicate (e.toks.length+2) false
 |.bin _ a b=>outs L a++true::outs L b
theorem qO:∀e:Ex T,(outs L e).length=e.toks.length
 |.leaf l=>by simp[outs,Ex.toks]
 |.sgn _ e=>by simp[outs,Ex.toks]
 |.par _ _ e=>by simp[outs,Ex.toks]
 |.bin _ a b=>by simp[outs,Ex.toks,qO a,qO b]
def Yb(L:Lx T)(d:Nat)(e:Ex T):List Bool:=if d=0 then outs L e else List.replicate e.toks.length false
theorem zvm{x:Option (List Bool)}(a b:List Bool):(x.map (b++ ·)).map (a++ ·)=x.map ((a++b)++ ·):=by
 cases x with
 |none=>rfl
 |some l=>simp
theorem map_cons{x:Option (List Bool)}(a:Bool)(b:List Bool):(x.map (b++ ·)).map (a:: ·)=x.map ((a::b)++ ·):=by
 cases x with
 |none=>rfl
 |some l=>simp
theorem G.head4{e:Ex T}{t:T}{q s:List T}(hg:G L 4 e)(heq:e.toks++s=t::q):L.pm t=false:=by
 cases hg with
 |leaf h0 h=>
  rename_i l;cases l with
  |nil=>exact absurd rfl h0
  |cons u p=>have heq:u::(p++s)=t::q:=heq;cases heq;exact (Jq h).2.1
 |par ho hc hz=>rename_i o c e';have heq:o::((e'.toks++[c])++s)=t::q:=heq;cases heq;exact ((L.ap _).1 ho).2.1
 |bin h _ _ _=>omega
 |up h _=>omega
theorem zk7{k:Nat}{e:Ex T}(hg:G L k e):∀(s:List T)(d n:Nat),zvO L s→(e.toks++s).length<n→∃n',s.length<n'∧sc L n (e.toks++s) d false=(sc L n' s d true).map (Yb L d e++ ·):=by
 induction hg with
 | @leaf l h0 h=>
  intro s d n hs hn;have ho:=zqS h0 h hs;obtain⟨n,rfl⟩:∃m,n=m+1:=⟨n-1,by omega⟩
  cases l with
  |nil=>exact absurd rfl h0
  |cons t q=>
   obtain⟨h1,h2,h3,h4⟩:=Jq h;have ho:L.opl (t::(q++s))=q.length+1:=ho;refine⟨n,by simp only[Ex.toks,List.length_append,List.length_cons]at hn;omega,?_⟩;show sc L (n+1) (t::(q++s)) d false=_;rw[jU,if_neg (by rw[h1];simp),if_neg (by simp),if_neg (by simp),if_neg (by rw[h2];simp),if_neg (by rw[ho];simp),ho];have e1:(q++s).drop (q.length+1-1)=s:=by simp
   rw[e1];congr 1;funext x;unfold Yb outs;congr 1;split<;>simp[Ex.toks]
 | @par o c e ho hc hg ih=>
  intro s d n hs hn;obtain⟨n,rfl⟩:∃m,n=m+1:=⟨n-1,by omega⟩
  have e1:(Ex.par o c e).toks++s=o::(e.toks++c::s):=by simp[Ex.toks]
  rw[e1]at hn⊢;obtain⟨m,hm,h1⟩:=ih (c::s) (d+1) n (zve hc) (by simp only[List.length_cons]at hn;omega);obtain⟨m,rfl⟩:∃j,m=j+1:=⟨m-1,by omega⟩
  refine⟨m,by simp only[List.length_cons]at hm;omega,?_⟩;have h2:sc L (m+1) (c::s) (d+1) true=(sc L m s d true).map (false:: ·):=by rw[jU,if_neg (by simp),if_pos ⟨rfl,hc⟩]
  have h3:sc L (n+1) (o::(e.toks++c::s)) d false=(sc L n (e.toks++c::s) (d+1) false).map (false:: ·):=by rw[jU,if_pos ⟨rfl,ho⟩]
  rw[h3,h1,h2];cases sc L m s d true with
  |none=>rfl
  |some l=>
   simp only[Option.map_some,Option.some.injEq];have e2:Yb L d (Ex.par o c e)=List.replicate (e.toks.length+2) false:=by
    unfold Yb outs;split
    ·rfl
    ·congr 1;simp[Ex.toks]
   have e3:Yb L (d+1) e=List.replicate e.toks.length false:=by unfold Yb;rw[if_neg (by omega)]
   rw[e2,e3,List.replicate_succ,List.replicate_succ'];simp
 | @sgn t e hp hg ih=>
  intro s d n hs hn;obtain⟨n,rfl⟩:∃m,n=m+1:=⟨n-1,by omega⟩
  have hn':(e.toks++s).length<n:=by simp only[Ex.toks,List.length_append,List.length_cons]at hn⊢;omega
  obtain⟨m,hm,h1⟩:=ih s d n hs hn';refine⟨m,hm,?_⟩;have hlp:L.lp t=false:=(zaL (L:=L) (t:=t) (by unfold jS;rw[hp];rfl)).1;show sc L (n+1) (t::(e.toks++s)) d false=_;cases hx:e.toks++s with
  |nil=>
   have h0:=hg.ne;cases he:e.toks with
   |nil=>exact absurd he h0
   |cons _ _=>rw[he]at hx;cases hx
  |cons u q=>
   have hu:=hg.head4 hx;rw[jU,if_neg (by rw[hlp];simp),if_neg (by simp),if_neg (by simp),if_pos ⟨rfl,hp⟩];dsimp only;rw[if_neg (by rw[hu];simp),←hx,h1,map_cons];congr 1;funext x;congr 1;have:Yb L d (Ex.sgn t e)=List.replicate (e.toks.length+1) false:=by
    unfold Yb outs;split
    ·rfl
    ·congr 1
   rw[this];have h4:Yb L d e=List.replicate e.toks.length false:=by
    unfold Yb;split
    ·cases hg with
     |leaf=>simp[outs,Ex.toks]
     |par=>simp[outs,Ex.toks]
     |bin h _ _ _=>omega
     |up h _=>omega
    ·rfl
   rw[h4,List.replicate_succ]
 | @bin k t a b hk ho ha hb iha ihb=>
  intro s d n hs hn;have e1:(Ex.bin t a b).toks++s=a.toks++t::(b.toks++s):=by simp[Ex.toks]
  rw[e1]at hn⊢;obtain⟨m,hm,h1⟩:=iha (t::(b.toks++s)) d n (zvf (opk_any ho)) hn
  ·obtain⟨m,rfl⟩:∃j,m=j+1:=⟨m-1,by omega⟩
   obtain⟨m',hm',h2⟩:=ihb s d m hs (by simp only[List.length_cons]at hm;omega);refine⟨m',hm',?_⟩;obtain⟨hl,hr⟩:=zaL (L:=L) (opk_any ho);have h3:sc L (m+1) (t::(b.toks++s)) d true=(sc L m (b.toks++s) d false).map (decide (d=0):: ·):=by rw[jU,if_neg (by simp),if_neg (by rw[hr];simp),if_pos ⟨rfl,opk_any ho⟩]
   rw[h1,h3,h2,map_cons,zvm];congr 1;funext x;congr 1;unfold Yb;split
   ·rename_i h0;rw[decide_eq_true h0];simp[outs]
   ·rename_i h0;rw[decide_eq_false h0];simp only[Ex.toks,List.length_append,List.length_cons];rw[←List.replicate_append_replicate,List.replicate_succ]
 | @up k e hk hg ih=>intro s d n hs hn;exact ih s d n hs hn
end Go.Sp
end
section
namespace Go.Sp
variable {T : Type} {L : Lx T}
theorem ins{j:Nat}{t:T}{b:Ex T}(hj:j≤2)(ho:opk L j t=true)(hb:G L (j+1) b):∀{k:Nat}{e:Ex T},G L k e→k≤j→∃e',G L k e'∧e'.toks=e.toks++t::b.toks:=by
 intro k e hg;induction hg with
 |leaf=>intro h;omega
 |par=>intro h;omega
 |sgn=>intro h;omega
 | @bin k u x y hk hu hx hy ihx ihy=>
  intro h;by_cases e:k=j
  ·subst e;exact⟨.bin t (.bin u x y) b,.bin hk ho (.bin hk hu hx hy) hb,rfl⟩
  ·obtain⟨y',h1,h2⟩:=ihy (by omega);exact⟨.bin u x y',.bin hk hu hx h1,by simp[Ex.toks,h2]⟩
 | @up k e hk hg ih=>
  intro h;by_cases e:k=j
  ·subst e;exact⟨.bin t _ b,.bin hj ho (.up hk hg) hb,rfl⟩
  ·obtain⟨e',h1,h2⟩:=ih (by omega);exact⟨e',.up hk h1,h2⟩
theorem Yv{x:Option (List Bool)}{f:List Bool→List Bool}(h:(x.map f).isSome=true):x.isSome=true:=by
 cases x with
 |none=>cases h
 |some _=>rfl
def At(L:Lx T)(n:Nat)(k:Nat)(l:List T)(d:Nat):Prop:=∃e s n',G L k e∧l=e.toks++s∧n'<n∧(sc L n' s d true).isSome=true
def Sm(L:Lx T)(n:Nat)(l:List T)(d:Nat):Prop:=∃e s n',G L 0 e∧l=e.toks++s∧n'<n∧(sc L n' s d true).isSome=true∧((s=[]∧d=0)∨∃c r,s=c::r∧L.rp c=true∧0<d)
theorem zqT{t:T}(h:jS L t=true):∃j,j≤2∧opk L j t=true:=by
 unfold jS at h;rw[Bool.or_eq_true,Bool.or_eq_true]at h;rcases h with h|h|h
 ·exact⟨0,by omega,h⟩
 ·exact⟨1,by omega,h⟩
 ·exact⟨2,by omega,h⟩
theorem at4{n:Nat}(ih:∀m,m<n→∀l d,(sc L m l d false).isSome=true→Sm L m l d){t:T}{r:List T}{d:Nat}(hp:L.pm t=false)(h:(sc L n (t::r) d false).isSome=true):At L n 4 (t::r) d:=by
 cases n with
 |zero=>cases h
 |succ n=>
  rw[jU]at h;by_cases hl:L.lp t=true
  ·rw[if_pos ⟨rfl,hl⟩]at h;obtain⟨e,s,n',g1,g2,g3,g4,g5⟩:=ih n (by omega) _ _ (Yv h);rcases g5 with⟨_,g5⟩|⟨c,q,rfl,g5,_⟩
   ·omega
   ·obtain⟨n',rfl⟩:∃m,n'=m+1:=by
     cases n' with
     |zero=>cases g4
     |succ m=>exact⟨m,rfl⟩
    rw[jU,if_neg (by simp),if_pos ⟨rfl,g5⟩]at g4;exact⟨.par t c e,q,n',.par hl g5 g1,by rw[g2];simp[Ex.toks],by omega,Yv g4⟩
  ·rw[if_neg (fun e=>hl e.2),if_neg (by simp),if_neg (by simp),if_neg (by rw[hp];simp)]at h;split at h
   ·cases h
   ·rename_i h0;have h0:L.opl (t::r)≠0:=fun e=>h0 (.inr e)
    have hle:=L.le (t::r);have e1:((t::r).take (L.opl (t::r))).length=L.opl (t::r):=by rw[List.length_take];omega
    refine⟨.leaf ((t::r).take (L.opl (t::r))),(t::r).drop (L.opl (t::r)),n,.leaf (fun e=>by rw[e]at e1;exact h0 e1.symm) ?_,(List.take_append_drop _ _).symm,by omega,?_⟩
    ·rw[L.tr ((t::r).take (L.opl (t::r))) ((t::r).drop (L.opl (t::r))) (by rw[List.take_append_drop,e1])]
    ·obtain⟨m,hm⟩:∃m,L.opl (t::r)=m+1:=⟨L.opl (t::r)-1,by omega⟩
     rw[hm]at h⊢;exact Yv h
theorem at3{n:Nat}(ih:∀m,m<n→∀l d,(sc L m l d false).isSome=true→Sm L m l d){l:List T}{d:Nat}(h:(sc L n l d false).isSome=true):At L n 3 l d:=by
 cases n with
 |zero=>cases h
 |succ n=>
  cases l with
  |nil=>rw[zcu,if_neg (by simp)]at h;cases h
  |cons t r=>
   cases hp:L.pm t with
   |false=>obtain⟨e,s,n',g1,g2,g3,g4⟩:=at4 ih hp h;exact⟨e,s,n',.up (by omega) g1,g2,g3,g4⟩
   |true=>
    have hl:L.lp t=false:=(zaL (L:=L) (t:=t) (by unfold jS;rw[hp];rfl)).1;rw[jU,if_neg (by rw[hl];simp),if_neg (by simp),if_neg (by simp),if_pos ⟨rfl,hp⟩]at h;cases r with
    |nil=>cases h
    |cons u q=>
     dsimp only at h;split at h
     ·cases h
     ·rename_i hu;obtain⟨e,s,n',g1,g2,g3,g4⟩:=at4 (n:=n) (fun m hm=>ih m (by omega)) (by simpa using hu) (Yv h);exact⟨.sgn t e,s,n',.sgn hp g1,by rw[g2];rfl,by omega,g4⟩
theorem zr5{n:Nat}(ih:∀m,m<n→∀l d,(sc L m l d false).isSome=true→Sm L m l d):∀(k:Nat){e:Ex T}{l s:List T}{d:Nat},k<n→G L 0 e→l=e.toks++s→(sc L k s d true).isSome=true→Sm L n l d:=by
 intro k;induction k using Nat.strongRecOn with
 |_ k ihk=>
 intro e l s d hk hg hl h;cases k with
 |zero=>cases h
 |succ k=>
  cases s with
  |nil=>
   have h':=h;rw[zcu]at h';by_cases hd:d=0
   ·exact⟨e,[],k+1,hg,hl,hk,h,.inl ⟨rfl,hd⟩⟩
   ·rw[if_neg (fun e=>hd e.2)]at h';cases h'
  |cons t r=>
   have h':=h;rw[jU,if_neg (by simp)]at h';by_cases hr:L.rp t=true
   ·rw[if_pos ⟨rfl,hr⟩]at h';refine⟨e,t::r,k+1,hg,hl,hk,h,.inr ⟨t,r,rfl,hr,?_⟩⟩;cases d with
    |zero=>cases h'
    |succ d=>omega
   ·rw[if_neg (fun e=>hr e.2)]at h';by_cases ho:jS L t=true
    ·rw[if_pos ⟨rfl,ho⟩]at h';obtain⟨b,s',n',g1,g2,g3,g4⟩:=at3 (n:=k) (fun m hm=>ih m (by omega)) (Yv h');obtain⟨j,hj,hoj⟩:=zqT ho;obtain⟨e',f1,f2⟩:=ins hj hoj (g1.down (by omega) (by omega)) hg (Nat.zero_le _);exact ihk n' (by omega) (by omega) f1 (by rw[hl,f2,g2];simp) g4
    ·rw[if_neg (fun e=>ho e.2),if_neg (by simp),if_pos (.inl rfl)]at h';cases h'
theorem zwv:∀(n:Nat)(l:List T)(d:Nat),(sc L n l d false).isSome=true→Sm L n l d:=by
 intro n;induction n using Nat.strongRecOn with
 |_ n ih=>
 intro l d h;obtain⟨e,s,n',g1,g2,g3,g4⟩:=at3 ih h;exact zr5 ih n' g3 (g1.down (by omega) (by omega)) g2 g4
theorem zww{l:List T}{n:Nat}(hn:l.length<n):(sc L n l 0 false).isSome=true↔∃e,G L 0 e∧e.toks=l:=by
 constructor
 ·intro h;obtain⟨e,s,n',g1,g2,_,_,g5⟩:=zwv n l 0 h;rcases g5 with⟨rfl,_⟩|⟨_,_,_,_,h⟩
  ·exact⟨e,g1,by rw[g2,List.append_nil]⟩
  ·omega
 ·rintro⟨e,g,rfl⟩;obtain⟨n',h1,h2⟩:=zk7 g [] 0 n (.inl rfl) (by rw[List.append_nil];exact hn);rw[List.append_nil]at h2;obtain⟨n',rfl⟩:∃m,n'=m+1:=⟨n'-1,by omega⟩
  rw[h2,zcu,if_pos ⟨rfl,rfl⟩];rfl
theorem ztv{e:Ex T}(g:G L 0 e){n:Nat}(hn:e.toks.length<n):sc L n e.toks 0 false=some (outs L e):=by
 obtain⟨n',h1,h2⟩:=zk7 g [] 0 n (.inl rfl) (by rw[List.append_nil];exact hn);rw[List.append_nil]at h2;obtain⟨n',rfl⟩:∃m,n'=m+1:=⟨n'-1,by omega⟩
 rw[h2,zcu,if_pos ⟨rfl,rfl⟩];unfold Yb;simp
end Go.Sp
end
section
namespace Go.Sp
variable {T : Type} {L : Lx T}
def zM(p:T→Bool):List Bool→List T→Option Nat
 |b::bs,t::ts=>match zM p bs ts with
  |some i=>some (i+1)
  |none=>if(b&&p t)=true then some 0 else none
 |_,_=>none
theorem Wl(p:T→Bool)(b:Bool)(t:T)(o2:List Bool)(l2:List T):∀(o1:List Bool)(l1:List T),o1.length=l1.length→
  zM p (o1++b::o2) (l1++t::l2)=match zM p o2 l2 with
   |some i=>some (l1.length+1+i)
   |none=>if(b&&p t)=true then some l1.length else zM p o1 l1
 |[],[],_=>by
  show zM p (b::o2) (t::l2)=_;rw[zM];cases zM p o2 l2 with
  |none=>rfl
  |some i=>dsimp only[List.length_nil];congr 1;omega
 |[],_::_,h=>by cases h
 |_::_,[],h=>by cases h
 |c::o1,u::l1,h=>by
  have ih:=Wl p b t o2 l2 o1 l1 (by simpa using h);show zM p (c::(o1++b::o2)) (u::(l1++t::l2))=_;rw[zM,ih];cases zM p o2 l2 with
  |some i=>dsimp only[List.length_cons];congr 1;omega
  |none=>
   dsimp only;by_cases hb:(b&&p t)=true
   ·rw[if_pos hb,if_pos hb];rfl
   ·rw[if_neg hb,if_neg hb];conv=>rhs;rw[zM]
theorem yo(p:T→Bool):∀(n:Nat)(l:List T),zM p (List.replicate n false) l=none
 |0,l=>by cases l<;>rfl
 |n+1,[]=>rfl
 |n+1,t::l=>by rw[List.replicate_succ,zM,yo p n l];rfl
theorem zcU{k:Nat}{e:Ex T}(hg:G L k e):∀j,j<k→j≤2→zM (opk L j) (outs L e) e.toks=none:=by
 induction hg with
 |leaf=>intro j _ _;exact yo _ _ _
 |par=>intro j _ _;exact yo _ _ _
 |sgn=>intro j _ _;exact yo _ _ _
 | @bin k t a b hk ho ha hb iha ihb=>intro j h1 h2;show zM _ (outs L a++true::outs L b) (a.toks++t::b.toks)=none;rw[Wl _ _ _ _ _ _ _ (qO a),ihb j (by omega) h2];dsimp only;rw[zgr ho (by omega) hk h2,if_neg (by simp),iha j h1 h2]
 | @up k e hk hg ih=>intro j h1 h2;exact ih j (by omega) h2
theorem G.top{k:Nat}{e:Ex T}(hg:G L k e):(∃l,e=.leaf l∧l≠[]∧L.opl l=l.length)∨(∃o c x,e=.par o c x∧L.lp o=true∧L.rp c=true∧G L 0 x)∨(∃t x,e=.sgn t x∧L.pm t=true∧G L 4 x)∨
  (∃j t a b,e=.bin t a b∧j≤2∧opk L j t=true∧G L j a∧G L (j+1) b):=by
 induction hg with
 |leaf h0 h=>exact .inl ⟨_,rfl,h0,h⟩
 |par ho hc hg=>exact .inr (.inl ⟨_,_,_,rfl,ho,hc,hg⟩)
 |sgn hp hg=>exact .inr (.inr (.inl ⟨_,_,rfl,hp,hg⟩))
 |bin hk ho ha hb=>exact .inr (.inr (.inr ⟨_,_,_,_,rfl,hk,ho,ha,hb⟩))
 |up _ _ ih=>exact ih
def JD(L:Lx T)(o:List Bool)(l:List T):Option Nat:=match zM (opk L 0) o l with
 |some i=>some i
 |none=>match zM (opk L 1) o l with
  |some i=>some i
  |none=>zM (opk L 2) o l
theorem zmB{j:Nat}{t:T}{a b:Ex T}(hj:j≤2)(ho:opk L j t=true)(ha:G L j a)(hb:G L (j+1) b):JD L (outs L (.bin t a b)) (Ex.bin t a b).toks=some a.toks.length:=by
 have e:∀i,i≤2→zM (opk L i) (outs L (.bin t a b)) (Ex.bin t a b).toks=match zM (opk L i) (outs L b) b.toks with
   |some i=>some (a.toks.length+1+i)
   |none=>if(true&&opk L i t)=true then some a.toks.length else zM (opk L i) (outs L a) a.toks:=fun i _=>Wl _ _ _ _ _ _ _ (qO a)
 have at_:zM (opk L j) (outs L (.bin t a b)) (Ex.bin t a b).toks=some a.toks.length:=by rw[e j hj,zcU hb j (by omega) hj];dsimp only;rw[ho];rfl
 have below:∀i,i<j→zM (opk L i) (outs L (.bin t a b)) (Ex.bin t a b).toks=none:=fun i hi=>by rw[e i (by omega),zcU hb i (by omega) (by omega)];dsimp only;rw[zgr ho (by omega) hj (by omega),if_neg (by simp),zcU ha i hi (by omega)]
 unfold JD
 match j,hj,at_,below with
 |0,_,at_,_=>rw[at_]
 |1,_,at_,below=>rw[below 0 (by omega)];dsimp only;rw[at_]
 |2,_,at_,below=>rw[below 0 (by omega)];dsimp only;rw[below 1 (by omega)];exact at_
theorem Xp{n:Nat}{l:List T}:JD L (List.replicate n false) l=none:=by unfold JD;rw[yo,yo];exact yo _ _ _
structure Al(T X:Type) where
 leaf:List T→X
 sgn:T→X→X
 par:X→X
 bin:T→X→X→X
def Ex.fold{X:Type}(A:Al T X):Ex T→X
 |.leaf l=>A.leaf l
 |.sgn t e=>A.sgn t (e.fold A)
 |.par _ _ e=>A.par (e.fold A)
 |.bin t a b=>A.bin t (a.fold A) (b.fold A)
end Go.Sp
end
section
namespace Go.Sp
variable {T : Type}
structure Nd where
 op:Nat
 l:Nat
 r:Nat
structure Oc(T:Type) where
 mn:T→Bool
 oc:T→Nat
def Ex.lvs:Ex T→List (List T)
 |.leaf l=>[l]
 |.sgn _ e=>e.lvs
 |.par _ _ e=>e.lvs
 |.bin _ a b=>a.lvs++b.lvs
variable (O : Oc T)
def cnt:Ex T→Nat
 |.leaf _=>1
 |.sgn t e=>match O.mn t with
  |true=>cnt e+1
  |false=>cnt e
 |.par _ _ e=>cnt e
 |.bin _ a b=>cnt a+cnt b+1
def nds:Ex T→Nat→Nat→List Nd
 |.leaf _,_,lb=>[⟨1,lb,0⟩]
 |.sgn t e,nb,lb=>match O.mn t with
  |true=>nds e nb lb++[⟨7,nb+cnt O e-1,0⟩]
  |false=>nds e nb lb
 |.par _ _ e,nb,lb=>nds e nb lb
 |.bin t a b,nb,lb=>nds a nb lb++(nds b (nb+cnt O a) (lb+a.lvs.length)++[⟨O.oc t,nb+cnt O a-1,nb+cnt O a+cnt O b-1⟩])
theorem jC:∀e:Ex T,1≤cnt O e
 |.leaf _=>Nat.le_refl _
 |.sgn t e=>by have:=jC e;unfold cnt;split<;>omega
 |.par _ _ e=>jC e
 |.bin _ a b=>by unfold cnt;omega
theorem jK:∀(e:Ex T)(nb lb:Nat),(nds O e nb lb).length=cnt O e
 |.leaf _,_,_=>rfl
 |.sgn t e,nb,lb=>by unfold nds cnt;split<;>simp[jK e]
 |.par _ _ e,nb,lb=>jK e nb lb
 |.bin _ a b,nb,lb=>by simp[nds,cnt,jK a,jK b];omega
def inc(u:List Nat)(i:Nat):List Nat:=u.set i (u.getD i 0+1)
def yu(u:List Nat)(n:Nd):List Nat:=if 1<n.op∧n.op<7 then inc (inc u n.l) n.r else if 1<n.op then inc u n.l else u
theorem zko(a:List Nat)(x:Nat)(b:List Nat):inc (a++x::b) a.length=a++(x+1)::b:=by unfold inc;rw[List.getD_eq_getElem?_getD,List.getElem?_append_right (Nat.le_refl _),Nat.sub_self,List.set_append_right _ _ (Nat.le_refl _),Nat.sub_self];rfl
theorem zqk(n:Nat)(h:1≤n)(x:Nat):List.replicate n x=List.replicate (n-1) x++[x]:=by
 obtain⟨m,rfl⟩:∃m,n=m+1:=⟨n-1,by omega⟩
 rw[Nat.add_sub_cancel,List.replicate_succ']
def VO:Ex T→Prop
 |.leaf _=>True
 |.sgn _ e=>VO e
 |.par _ _ e=>VO e
 |.bin t a b=>(1<O.oc t∧O.oc t<7)∧VO a∧VO b
theorem Ji:∀(e:Ex T)(lb:Nat)(pre post:List Nat),VO O e→(nds O e pre.length lb).foldl yu (pre++(List.replicate (cnt O e) 0++post))=pre++((List.replicate (cnt O e-1) 1++[0])++post)
 |.leaf _,lb,pre,post,_=>by show yu (pre++([0]++post)) ⟨1,lb,0⟩=_;unfold yu;rw[if_neg (by simp),if_neg (by simp)];rfl
 |.sgn t e,lb,pre,post,ho=>by
  have c:=jC O e;cases hm:O.mn t with
  |false=>
   have e1:cnt O (.sgn t e)=cnt O e:=by show(match O.mn t with|true=>_|false=>_)=_;rw[hm]
   have e2:nds O (.sgn t e) pre.length lb=nds O e pre.length lb:=by show(match O.mn t with|true=>_|false=>_)=_;rw[hm]
   rw[e1,e2];exact Ji e lb pre post ho
  |true=>
   have e1:cnt O (.sgn t e)=cnt O e+1:=by show(match O.mn t with|true=>_|false=>_)=_;rw[hm]
   have e2:nds O (.sgn t e) pre.length lb=nds O e pre.length lb++[⟨7,pre.length+cnt O e-1,0⟩]:=by show(match O.mn t with|true=>_|false=>_)=_;rw[hm]
   have h1:=Ji e lb pre (0::post) ho;have e0:pre++(List.replicate (cnt O e+1) 0++post)=pre++(List.replicate (cnt O e) 0++0::post):=by rw[List.replicate_succ'];simp
   rw[e1,e2,e0,List.foldl_append,h1];show yu _ ⟨7,pre.length+cnt O e-1,0⟩=_;unfold yu;rw[if_neg (by simp),if_pos (by simp)];dsimp only;have e2:pre++((List.replicate (cnt O e-1) 1++[0])++0::post)=(pre++List.replicate (cnt O e-1) 1)++0::(0::post):=by simp
   have e3:pre.length+cnt O e-1=(pre++List.replicate (cnt O e-1) 1).length:=by simp;omega
   rw[e2,e3,zko,Nat.add_sub_cancel,zqk (cnt O e) c 1];simp
 |.par _ _ e,lb,pre,post,ho=>Ji e lb pre post ho
 |.bin t a b,lb,pre,post,ho=>by
  obtain⟨ho1,ha,hb⟩:=ho;have ca:=jC O a;have cb:=jC O b;have h1:=Ji a lb pre (List.replicate (cnt O b) 0++0::post) ha;have h2:=Ji b (lb+a.lvs.length) (pre++(List.replicate (cnt O a-1) 1++[0])) (0::post) hb;have e1:pre++(List.replicate (cnt O (.bin t a b)) 0++post)=pre++(List.replicate (cnt O a) 0++(List.replicate (cnt O b) 0++0::post)):=by
   have:cnt O (.bin t a b)=cnt O a+(cnt O b+1):=by show cnt O a+cnt O b+1=_;omega
   rw[this,←List.replicate_append_replicate,List.replicate_succ'];simp
  have e2:pre++((List.replicate (cnt O a-1) 1++[0])++(List.replicate (cnt O b) 0++0::post))=(pre++(List.replicate (cnt O a-1) 1++[0]))++(List.replicate (cnt O b) 0++0::post):=by simp
  have e3:pre.length+cnt O a=(pre++(List.replicate (cnt O a-1) 1++[0])).length:=by simp;omega
  show List.foldl yu _ (nds O a pre.length lb++(nds O b (pre.length+cnt O a) (lb+a.lvs.length)++_))=_;rw[e1,List.foldl_append,h1,List.foldl_append,e2];conv=>lhs;rw[show nds O b (pre.length+cnt O a) (lb+a.lvs.length)=nds O b (pre++(List.replicate (cnt O a-1) 1++[0])).length (lb+a.lvs.length)from by rw[e3]]
  rw[h2];show yu _ ⟨O.oc t,pre.length+cnt O a-1,pre.length+cnt O a+cnt O b-1⟩=_;unfold yu;rw[if_pos ho1];dsimp only;have f1:(pre++(List.replicate (cnt O a-1) 1++[0]))++((List.replicate (cnt O b-1) 1++[0])++0::post)=(pre++List.replicate (cnt O a-1) 1)++0::((List.replicate (cnt O b-1) 1++[0])++0::post):=by simp
  have f2:pre.length+cnt O a-1=(pre++List.replicate (cnt O a-1) 1).length:=by simp;omega
  have f3:pre.length+cnt O a+cnt O b-1=(pre++List.replicate (cnt O a-1) 1++1::List.replicate (cnt O b-1) 1).length:=by simp;omega
  have f4:(pre++List.replicate (cnt O a-1) 1)++(0+1)::((List.replicate (cnt O b-1) 1++[0])++0::post)=(pre++List.replicate (cnt O a-1) 1++1::List.replicate (cnt O b-1) 1)++0::(0::post):=by simp
  rw[f1,f2,zko,f4,f3,zko];have f5:cnt O (.bin t a b)-1=(cnt O a-1)+1+((cnt O b-1)+1):=by show cnt O a+cnt O b+1-1=_;omega
  rw[f5,←List.replicate_append_replicate,←List.replicate_append_replicate,←List.replicate_append_replicate];simp
structure An(T X:Type) where
 leaf:List T→X
 neg:X→X
 op:Nat→X→X→X
def Ex.high:Ex T→Nat
 |.leaf _=>1
 |.sgn _ e=>e.high+1
 |.par _ _ e=>e.high
 |.bin _ a b=>max a.high b.high+1
end Go.Sp
end
section
set_option maxRecDepth 100000
namespace Go.Proofs.C06
open Go Go.RowKit Go.Vc Go.Am
def isO(t:Token)(w:List UInt8):Bool:=decide (t.Kind=5)&&decide (t.Text=w)
theorem qk{t:Token}{w:List UInt8}(h:isO t w=true):t.Kind=5∧t.Text=w:=by unfold isO at h;rw[Bool.and_eq_true]at h;exact⟨of_decide_eq_true h.1,of_decide_eq_true h.2⟩
theorem jG{t:Token}{w v:List UInt8}(h:isO t w=true)(hne:w≠v):isO t v=false:=by unfold isO;rw[(qk h).2,decide_eq_false hne,Bool.and_false]
def tLp(t:Token):Bool:=isO t [40]
def tRp(t:Token):Bool:=isO t [41]
def tPm(t:Token):Bool:=isO t [43]||isO t [45]
def tMd(t:Token):Bool:=isO t [42]||isO t [47]
def tPw(t:Token):Bool:=isO t [42,42]
theorem zma(t:Token)(c:UInt8):isP t c=isO t [c]:=rfl
theorem jy{a b:Bool}{P:Prop}(h:(a||b)=true)(ha:a=true→P)(hb:b=true→P):P:=by
 rcases Bool.or_eq_true _ _▸h with h|h
 ·exact ha h
 ·exact hb h
theorem zqP{t:Token}(h:tPm t=true){w:List UInt8}(h1:[43]≠w)(h2:[45]≠w):isO t w=false:=jy h (fun h=>jG h h1) (fun h=>jG h h2)
theorem zxM{t:Token}(h:tMd t=true){w:List UInt8}(h1:[42]≠w)(h2:[47]≠w):isO t w=false:=jy h (fun h=>jG h h1) (fun h=>jG h h2)
theorem zvR(t:Token):(tLp t=true→tRp t=false∧tPm t=false∧tMd t=false∧tPw t=false)∧(tRp t=true→tPm t=false∧tMd t=false∧tPw t=false)∧(tPm t=true→tMd t=false∧tPw t=false)∧(tMd t=true→tPw t=false):=by
 refine⟨fun h=>⟨jG h (by decide),?_,?_,jG h (by decide)⟩,fun h=>⟨?_,?_,jG h (by decide)⟩,fun h=>⟨?_,zqP h (by decide) (by decide)⟩,fun h=>zxM h (by decide) (by decide)⟩
 ·unfold tPm;rw[jG h (by decide),jG h (by decide)];rfl
 ·unfold tMd;rw[jG h (by decide),jG h (by decide)];rfl
 ·unfold tPm;rw[jG h (by decide),jG h (by decide)];rfl
 ·unfold tMd;rw[jG h (by decide),jG h (by decide)];rfl
 ·unfold tMd;rw[zqP h (by decide) (by decide),zqP h (by decide) (by decide)];rfl
theorem Qv{t:Token}(h:(tLp t||(tRp t||(tPm t||(tMd t||tPw t))))=true):t.Kind=5:=
 jy h (fun h=>(qk h).1) fun h=>jy h (fun h=>(qk h).1) fun h=>jy h (fun h=>jy h (fun h=>(qk h).1) fun h=>(qk h).1) fun h=>jy h (fun h=>jy h (fun h=>(qk h).1) fun h=>(qk h).1) fun h=>(qk h).1
theorem zw3{ts:List Token}{i:Nat}{k:Int}{w:List (List UInt8)}(h:isT ts i k w=true):i<ts.length:=by
 unfold isT at h;split at h
 ·rename_i t ht;exact (List.getElem?_eq_some_iff.1 ht).1
 ·cases h
theorem zgT{p s:List Token}{i:Nat}{k:Int}{w:List (List UInt8)}(h:i<p.length):isT (p++s) i k w=isT p i k w:=by unfold isT;rw[List.getElem?_append_left h]
theorem zvd{p s:List Token}{i:Nat}(h:i<p.length):nmT (p++s) i=nmT p i:=by unfold nmT;rw[List.getElem?_append_left h]
theorem Vw{p:List Token}{i:Nat}{k:Int}{w:List (List UInt8)}(h:p.length≤i):isT p i k w=false:=by unfold isT;rw[List.getElem?_eq_none_iff.2 h]
theorem zre{p s:List Token}{t:Token}{k:Int}{w:List (List UInt8)}:isT (p++t::s) p.length k w=(decide (t.Kind=k)&&decide (t.Text∈w)):=by unfold isT;rw[List.getElem?_append_right (Nat.le_refl _),Nat.sub_self];rfl
theorem zwU{p s:List Token}{t:Token}(h:t.Kind=5):nmT (p++t::s) p.length=false:=by unfold nmT;rw[List.getElem?_append_right (Nat.le_refl _),Nat.sub_self];show(decide (t.Kind=1)&&_)=false;rw[h];rfl
def yn(ts:List Token)(n:Nat):Bool:=isT ts n 1 [[79,70],[73,78]]&&nmT ts (n+1)
theorem jO(ts:List Token)(k n:Nat):ofN ts (k+1) n=if yn ts n then ofN ts k (n+2)else n:=rfl
theorem JX{ts:List Token}{n:Nat}(h:yn ts n=true):n+1<ts.length:=by unfold yn at h;rw[Bool.and_eq_true]at h;exact zj8 h.2
theorem Y0{p s:List Token}{n:Nat}(h:n+1<p.length):yn (p++s) n=yn p n:=by unfold yn;rw[zgT (by omega),zvd h]
theorem zj7(ts:List Token):∀(k n:Nat),n≤ofN ts k n
 |0,n=>Nat.le_refl _
 |k+1,n=>by
  rw[jO];split
  ·have:=zj7 ts k (n+2);omega
  ·exact Nat.le_refl _
theorem zj6(ts:List Token):∀(k n:Nat),n≤ts.length→ofN ts k n≤ts.length
 |0,n,h=>h
 |k+1,n,h=>by
  rw[jO];split
  ·rename_i hl;have:=JX hl;exact zj6 ts k (n+2) (by omega)
  ·exact h
theorem zcO(ts:List Token):∀(k n:Nat),ts.length-n<k+1→yn ts (ofN ts k n)=false
 |0,n,h=>by
  show yn ts n=false;cases e:yn ts n with
  |false=>rfl
  |true=>have:=JX e;omega
 |k+1,n,h=>by
  rw[jO];cases e:yn ts n with
  |false=>rw[if_neg (by simp)];exact e
  |true=>rw[if_pos rfl];exact zcO ts k (n+2) (by have:=JX e;omega)
theorem zl4{p s:List Token}:∀(k k' n m:Nat),p.length-n<k'+1→ofN (p++s) k n=m→m≤p.length→yn (p++s) m=false→ofN p k' n=m
 |0,k',n,m,hk,h,hm,hs=>by
  have h:n=m:=h;subst h;cases k' with
  |zero=>rfl
  |succ k'=>
   rw[jO];split
   ·rename_i hl;rw[Y0 (JX hl),hl]at hs;cases hs
   ·rfl
 |k+1,k',n,m,hk,h,hm,hs=>by
  rw[jO]at h;cases e:yn (p++s) n with
  |false=>
   rw[e,if_neg (by simp)]at h;cases h;cases k' with
   |zero=>rfl
   |succ k'=>
    rw[jO];split
    ·rename_i hl;rw[Y0 (JX hl),hl]at e;cases e
    ·rfl
  |true=>
   rw[e,if_pos rfl]at h;have:=zj7 (p++s) k (n+2);cases k' with
   |zero=>omega
   |succ k'=>rw[jO,←Y0 (s:=s) (by omega),e,if_pos rfl];exact zl4 k k' (n+2) m (by omega) h hm hs
theorem zl5{p s:List Token}:∀(k k' n:Nat),p.length-n<k+1→p.length-n<k'+1→n≤p.length→yn (p++s) (ofN p k n)=false→ofN (p++s) k' n=ofN p k n
 |0,k',n,h,h',hn,hs=>by
  have hs:yn (p++s) n=false:=hs;show ofN (p++s) k' n=n;cases k' with
  |zero=>rfl
  |succ k'=>rw[jO,hs];rfl
 |k+1,k',n,h,h',hn,hs=>by
  rw[jO]at hs⊢;cases e:yn p n with
  |false=>
   rw[e,if_neg (by simp)]at hs;rw[if_neg (by simp)];cases k' with
   |zero=>rfl
   |succ k'=>rw[jO,hs];rfl
  |true=>
   have hl:=JX e;rw[e,if_pos rfl]at hs;rw[if_pos rfl];cases k' with
   |zero=>omega
   |succ k'=>rw[jO,Y0 hl,e,if_pos rfl];exact zl5 k k' (n+2) (by omega) (by omega) (by omega) hs
theorem ziE{s:List Token}:∀(r:List Token)(d:Int)(p:Bool)(n:Nat),(grpL r d p n).1≠0→grpL (r++s) d p n=grpL r d p n
 |[],_,_,_,h=>absurd rfl h
 |t::r,d,p,n,h=>by
  show(if dep t d=0 then _ else grpL (r++s) (dep t d) (prt t d p) (n+1))=if dep t d=0 then _ else grpL r (dep t d) (prt t d p) (n+1)
  unfold grpL at h;split
  ·rfl
  ·rename_i h0;rw[if_neg h0]at h;exact ziE r _ _ _ h
theorem ziD{s:List Token}:∀(r:List Token)(d:Int)(p:Bool)(n:Nat),(grpL (r++s) d p n).1≤n+r.length→grpL r d p n=grpL (r++s) d p n
 |[],d,p,n,h=>by
  have h:(grpL s d p n).1≤n:=h;show((0,false):Nat×Bool)=grpL s d p n;rcases grpL_le s d p n with e|⟨e,_⟩
  ·have z:∀(s:List Token)(d:Int)(p:Bool)(n:Nat),(grpL s d p n).1=0→grpL s d p n=(0,false):=by
    intro s;induction s with
    |nil=>intro _ _ _ _;rfl
    |cons t r ih=>
     intro d p n h;unfold grpL at h⊢;split
     ·rename_i h0;rw[if_pos h0]at h;cases h
     ·rename_i h0;rw[if_neg h0]at h;exact ih _ _ _ h
   exact (z s d p n e).symm
  ·omega
 |t::r,d,p,n,h=>by
  show(if dep t d=0 then _ else grpL r (dep t d) (prt t d p) (n+1))=if dep t d=0 then _ else grpL (r++s) (dep t d) (prt t d p) (n+1)
  have h:(if dep t d=0 then(n+1,prt t d p)else grpL (r++s) (dep t d) (prt t d p) (n+1)).1≤n+(r.length+1):=h;split
  ·rfl
  ·rename_i h0;rw[if_neg h0]at h;exact ziD r _ _ _ (by omega)
theorem Wv:∀(s:List Token)(d:Int)(p:Bool)(n:Nat),(grpL s d p n).1=0→grpL s d p n=(0,false)
 |[],_,_,_,_=>rfl
 |t::r,d,p,n,h=>by
  unfold grpL at h⊢;split
  ·rename_i h0;rw[if_pos h0]at h;cases h
  ·rename_i h0;rw[if_neg h0]at h;exact Wv r _ _ _ h
theorem ziC{ts:List Token}{i:Nat}(h:(grp ts i).1=0):grp ts i=(0,false):=by
 unfold grp at h⊢;split
 ·rename_i h0;rw[if_pos h0]at h;exact Wv _ _ _ _ h
 ·rfl
theorem zmc{p s:List Token}{i:Nat}(hi:i≤p.length)(h:i+(grp (p++s) i).1≤p.length):grp p i=grp (p++s) i:=by
 unfold grp at h⊢;by_cases hi':i<p.length
 ·rw[zgT hi']at h⊢;cases e:isT p i 5 [[40]]with
  |false=>rfl
  |true=>rw[e,if_pos rfl,List.drop_append_of_le_length hi]at h;rw[if_pos rfl,if_pos rfl,List.drop_append_of_le_length hi];exact ziD _ _ _ _ (by rw[List.length_drop];omega)
 ·rw[Vw (by omega),if_neg (by simp)];cases e:isT (p++s) i 5 [[40]]with
  |false=>rfl
  |true=>
   rw[e,if_pos rfl]at h;rw[if_pos rfl];rcases Nat.eq_zero_or_pos (grpL ((p++s).drop i) 0 false 0).1 with z|z
   ·exact (Wv _ _ _ _ z).symm
   ·omega
theorem zmd{p s:List Token}{i:Nat}(hi:i≤p.length)(h:(grp p i).1≠0):grp (p++s) i=grp p i:=by
 unfold grp at h⊢;cases e:isT p i 5 [[40]]with
 |false=>rw[e]at h;exact absurd rfl h
 |true=>rw[e,if_pos rfl]at h;rw[zgT (zw3 e),e,if_pos rfl,if_pos rfl,List.drop_append_of_le_length hi];exact ziE _ _ _ _ h
theorem zgY{p:List Token}{i:Nat}(h:p.length≤i):grp p i=(0,false):=by unfold grp;rw[Vw h];rfl
theorem zrg{p s:List Token}{t:Token}(h:tLp t=false):grp (p++t::s) p.length=(0,false):=by
 unfold grp;rw[zre];have e:(decide (t.Kind=5)&&decide (t.Text∈[[(40:UInt8)]]))=tLp t:=by simp[tLp,isO]
 rw[e,h];rfl
theorem zqV(ts:List Token)(n:Nat):n≤opG ts n:=by unfold opG;(repeat' split)<;>omega
theorem zu8{p s:List Token}{m:Nat}(h:opG (p++s) m=p.length):opG p m=p.length:=by
 have hm:m≤p.length:=by have:=zqV (p++s) m;omega
 unfold opG at h⊢;have g1:grp p m=grp (p++s) m:=zmc hm (by split at h;{split at h<;>omega};omega);rw[g1];generalize hg:grp (p++s) m=g at h⊢;split
 ·rename_i hc;rw[if_pos hc]at h;have g2:grp p (m+g.1)=grp (p++s) (m+g.1)∨((grp p (m+g.1)).2=false∧(grp (p++s) (m+g.1)).2=false):=by
   cases e:(grp (p++s) (m+g.1)).2 with
   |true=>rw[e,if_pos rfl]at h;exact .inl (zmc (by omega) (by omega))
   |false=>rw[e,if_neg (by simp)]at h;exact .inr ⟨by rw[zgY (by omega)],rfl⟩
  rcases g2 with g2|⟨g2,g3⟩
  ·rw[g2];exact h
  ·rw[g2,if_neg (by simp)];rw[g3,if_neg (by simp)]at h;exact h
 ·rename_i hc;rw[if_neg hc]at h;exact h
theorem zu9{p s:List Token}{t:Token}(ht:tLp t=false){m:Nat}(hm:m≤p.length)(h:opG p m=p.length):opG (p++t::s) m=p.length:=by
 have g1:grp (p++t::s) m=grp p m:=by
  rcases Nat.eq_zero_or_pos (grp p m).1 with z|z
  ·have:m=p.length:=by unfold opG at h;rw[ziC z,if_neg (by simp)]at h;exact h
   rw[this,zrg ht,zgY (Nat.le_refl _)]
  ·exact zmd hm (by omega)
 unfold opG at h⊢;rw[g1];generalize hg:grp p m=g at h⊢;have gl:=Wu p m hm;rw[hg]at gl;split
 ·rename_i hc;rw[if_pos hc]at h;have g2:grp (p++t::s) (m+g.1)=grp p (m+g.1):=by
   rcases Nat.eq_zero_or_pos (grp p (m+g.1)).1 with z|z
   ·have:m+g.1=p.length:=by rw[ziC z,if_neg (by simp)]at h;exact h
    rw[this,zrg ht,zgY (Nat.le_refl _)]
   ·exact zmd (by omega) (by omega)
  rw[g2];exact h
 ·rename_i hc;rw[if_neg hc]at h;exact h
def oplT(ts:List Token):Nat:=(opd ts).1
theorem zh9{t:Token}{r q:List Token}(h:nmT (t::r) 0=false):opd (t::r)=opd (t::q):=by have h2:nmT (t::q) 0=false:=h;unfold opd;rw[h,h2];rfl
theorem Kb{t:Token}{r:List Token}(q:List Token):nmT (t::r) 0=nmT (t::q) 0:=rfl
theorem Jn{ts:List Token}(h:nmT ts 0=true):oplT ts=opG ts (ofN ts ts.length 1):=by unfold oplT opd;rw[h];rfl
theorem zu6:oplT []=0:=rfl
theorem zj0{t:Token}{r:List Token}(h:nmT (t::r) 0=false):oplT (t::r)≤1:=by unfold oplT opd;rw[h,if_neg (by simp)];dsimp only[List.getElem?_cons_zero];split<;>simp
theorem znF(ts:List Token):oplT ts≤ts.length:=by
 cases ts with
 |nil=>exact Nat.le_refl _
 |cons t r=>
  cases h:nmT (t::r) 0 with
  |false=>have:=zj0 h;simp only[List.length_cons];omega
  |true=>rw[Jn h];have:=zj7 (t::r) (t::r).length 1;exact (zqU this (zj6 _ _ 1 (by simp))).2
theorem zxs(p s:List Token)(h:oplT (p++s)=p.length):oplT p=p.length:=by
 cases p with
 |nil=>exact zu6
 |cons t p=>
  cases hn:nmT (t::(p++s)) 0 with
  |false=>have e:oplT (t::p)=oplT (t::(p++s)):=congrArg Prod.fst (zh9 (q:=p++s) (by rw[Kb (p++s)];exact hn));rw[e];exact h
  |true=>
   have hn2:nmT (t::p) 0=true:=by rw[Kb (p++s)];exact hn
   rw[List.cons_append,Jn hn]at h;rw[Jn hn2];generalize hm:ofN (t::(p++s)) (t::(p++s)).length 1=m at h;have hge:m≤(t::p).length:=by have:=zqV (t::(p++s)) m;omega
   have hst:=zcO (t::(p++s)) (t::(p++s)).length 1 (by omega);rw[hm]at hst;have:=zl4 (p:=t::p) (s:=s) _ (t::p).length 1 m (by omega) hm hge hst;rw[this];exact zu8 h
theorem zxu(p:List Token)(t:Token)(s:List Token)(h0:p≠[])(h:oplT p=p.length)(ht:(tRp t||(tPm t||(tMd t||tPw t)))=true):oplT (p++t::s)=p.length:=by
 have hk:t.Kind=5:=Qv (by rw[ht,Bool.or_true]);have hl:tLp t=false:=by
  cases e:tLp t with
  |false=>rfl
  |true=>obtain⟨a,b,c,d⟩:=(zvR t).1 e;rw[a,b,c,d]at ht;cases ht
 cases p with
 |nil=>exact absurd rfl h0
 |cons u p=>
  cases hn:nmT (u::p) 0 with
  |false=>have e:oplT (u::(p++t::s))=oplT (u::p):=congrArg Prod.fst (zh9 (q:=p) (by rw[Kb p];exact hn));rw[List.cons_append,e];exact h
  |true=>
   have hn2:nmT (u::(p++t::s)) 0=true:=by rw[Kb p];exact hn
   rw[Jn hn]at h;rw[List.cons_append,Jn hn2];have hle:=zj6 (u::p) (u::p).length 1 (by simp);have hst:=zcO (u::p) (u::p).length 1 (by omega);generalize hm:ofN (u::p) (u::p).length 1=m at h hle hst;have hst2:yn (u::p++t::s) m=false:=by
    by_cases h1:m+1<(u::p).length
    ·rw[Y0 h1];exact hst
    ·unfold yn;by_cases h2:m=(u::p).length
     ·rw[h2,zre,hk];rfl
     ·have:m+1=(u::p).length:=by omega
      rw[this,zwU hk,Bool.and_false]
   have:=zl5 (p:=u::p) (s:=t::s) (u::p).length (u::(p++t::s)).length 1 (by omega) (by simp;omega) (by simp) (by rw[hm];exact hst2);rw[hm]at this;have e2:ofN (u::(p++t::s)) (u::(p++t::s)).length 1=m:=this;rw[e2];exact zu9 (p:=u::p) hl hle h
theorem zxt(t:Token)(s:List Token)(h:(tLp t||(tRp t||(tPm t||(tMd t||tPw t))))=true):oplT (t::s)=0:=by
 have hk:=Qv h;unfold oplT opd;have hn:nmT (t::s) 0=false:=by show(decide (t.Kind=1)&&_)=false;rw[hk];rfl
 rw[hn,if_neg (by simp)];dsimp only[List.getElem?_cons_zero];rw[if_neg (by rw[hk];simp)]
def zF:Go.Sp.Lx Token:=⟨tLp,tRp,tPm,tMd,tPw,oplT,zvR,znF,zxs,zxu,zxt⟩
end Go.Proofs.C06
end
section
set_option maxRecDepth 100000
namespace Go.Proofs.C06
open Go Go.RowKit Go.Vc Go.Am
theorem tc0(t:Token):cellOf (tkV t) 0=.int .u8 t.Kind:=rfl
theorem tc1(t:Token):cellOf (tkV t) 1=.str t.Text:=rfl
theorem tc2(t:Token):cellOf (tkV t) 2=.int .i64 t.At_Line:=rfl
theorem tc3(t:Token):cellOf (tkV t) 3=.int .i64 t.At_Column:=rfl
theorem tc4(t:Token):cellOf (tkV t) 4=.bool t.Left:=rfl
theorem tc5(t:Token):lenB (tkV t) 5=true:=rfl
theorem qi(k:IntKind)(x:Int):Am.intOf (.int k x)=x:=rfl
theorem qI(s:List UInt8):strOf (.str s)=s:=rfl
theorem yD(b:Bool):boolOf (.bool b)=b:=rfl
theorem jr(x:Int):isIntK .u8 (.int .u8 x)=true:=rfl
theorem zY(x:Int):isIntK .i64 (.int .i64 x)=true:=rfl
theorem qW(s:List UInt8):isStr (.str s)=true:=rfl
theorem jR(b:Bool):isBool (.bool b)=true:=rfl
theorem yF(t:Token):Token.mk t.Kind t.Text t.At_Line t.At_Column t.Left=t:=rfl
theorem jz(N:Nat)(t:Token)(s:List UInt8):lIs17 N t s=some (isO t s):=by
 unfold lIs17 isO;by_cases h:t.Kind=5
 ·rw[decide_eq_true h,cond_true,Bool.true_and]
 ·rw[decide_eq_false h,cond_false,Bool.false_and]
theorem zc1{N:Nat}{ts:List Token}{i:Nat}{t:Token}(h:ts[i]? =some t)(hw:Wd t):QQ N t=some (nmT ts i):=by
 unfold QQ nmT;rw[h];dsimp only;by_cases hk:t.Kind=1
 ·rw[decide_eq_true hk,cond_true,zay (hw hk),zf,Bool.true_and]
 ·rw[decide_eq_false hk,cond_false,Bool.false_and]
theorem zrz(t:Token)(d:Int):dep t d=if isO t [40]then d+1 else if isO t [41]then d-1 else d:=rfl
theorem zwR(t:Token)(d:Int)(p:Bool):prt t d p=(p||(decide (dep t d=1)&&isO t [58])):=by
 have ha:isO t [40]=true→isO t [58]=false:=fun h=>jG h (by decide)
 have hb:isO t [41]=true→isO t [58]=false:=fun h=>jG h (by decide)
 rw[zrz];show(if isO t [40]then p else if isO t [41]then p else if isO t [58]&&decide (d=1)then true else p)=_;generalize isO t [40]=a at*
 generalize isO t [41]=b at*
 generalize isO t [58]=c at*
 cases c with
 |false=>rw[Bool.and_false,Bool.or_false,Bool.false_and];(repeat' split)<;>first|rfl|contradiction
 |true=>
  cases a with
  |true=>exact absurd (ha rfl) (by simp)
  |false=>
   cases b with
   |true=>exact absurd (hb rfl) (by simp)
   |false=>
    by_cases hd:d=1
    ·simp[hd]
    ·simp[hd]
theorem Qa{N:Nat}{go:List AV→Int→Bool→Int→Int→Option (Int×Bool)}{ts:List Token}{j:Nat}{t:Token}(h:ts[j]? =some t)(from_:Int)(p:Bool)(d:Int):
  qU N go (tkL ts) from_ p d (j:Int)=jQ N go (tkL ts) from_ (p||(decide (d=1)&&isO t [58])) d (j:Int):=by
 unfold qU;cases p with
 |true=>rw[cond_true,Bool.true_or]
 |false=>
  rw[cond_false,Bool.false_or];by_cases hd:d=1
  ·rw[decide_eq_true hd,cond_true,Bool.true_and];simp only[zW h,jH h,tc0,tc1,tc2,tc3,tc4,tc5,qi,qI,yD,jr,zY,qW,jR,Bool.and_true,za,yF,jz,zf]
  ·rw[decide_eq_false hd,cond_false,Bool.false_and]
theorem zdR{N:Nat}{go:List AV→Int→Bool→Int→Int→Option (Int×Bool)}{ts:List Token}{j:Nat}{t:Token}(h:ts[j]? =some t)(from_:Int)(p:Bool)(d:Int)(hd: -2000≤d∧d≤2000):
  yV N go (tkL ts) from_ p d (j:Int)=jQ N go (tkL ts) from_ (prt t d p) (dep t d) (j:Int):=by
 rw[zwR];unfold yV;simp only[zW h,jH h,tc0,tc1,tc2,tc3,tc4,tc5,qi,qI,yD,jr,zY,qW,jR,Bool.and_true,za,yF,jz,zf];have k2:∀d':Int,-3000≤d'→d'≤3000→qV N go (tkL ts) from_ p d' (j:Int)=jQ N go (tkL ts) from_ (p||(decide ((if isO t [41]then d'-1 else d')=1)&&isO t [58])) (if isO t [41]then d'-1 else d') (j:Int):=fun d' a b=>by
  unfold qV;simp only[zW h,jH h,tc0,tc1,tc2,tc3,tc4,tc5,qi,qI,yD,jr,zY,qW,jR,Bool.and_true,za,yF,jz,zf];cases h2:isO t [41]with
  |true=>rw[cond_true,jo (by omega) (by omega),za,Qa h,if_pos rfl]
  |false=>rw[cond_false,Qa h,if_neg (by simp)]
 rw[zrz];cases h1:isO t [40]with
 |true=>rw[cond_true,jo (by omega) (by omega),za,k2 _ (by omega) (by omega),jG h1 (by decide),if_pos rfl,if_neg (by simp)]
 |false=>rw[cond_false,k2 _ (by omega) (by omega)];rfl
theorem Xf{N:Nat}{ts:List Token}(hl:ts.length≤1000){i:Nat}:∀(k j:Nat)(d:Int)(p:Bool),i≤j→(j=i→isT ts i 5 [[40]]=true)→j≤ts.length→ts.length-j<k→ -(j:Int)≤d→d≤(j:Int)→
  ji N k (tkL ts) (i:Int) p d (j:Int)=some (((i+(grpL (ts.drop j) d p (j-i)).1:Nat):Int),(grpL (ts.drop j) d p (j-i)).2)
 |0,_,_,_,_,_,_,h,_,_=>by omega
 |k+1,j,d,p,hij,hp,hj,hk,h1,h2=>by
  show yL N (ji N k) (tkL ts) (i:Int) p d (j:Int)=_;unfold yL;by_cases h:j<ts.length
  ·have hg:ts[j]? =some ts[j]:=List.getElem?_eq_getElem h;rw[decide_eq_true (by rw[zq];omega),cond_true];have main:yV N (ji N k) (tkL ts) (i:Int) p d (j:Int)=some (((i+(grpL (ts.drop j) d p (j-i)).1:Nat):Int),(grpL (ts.drop j) d p (j-i)).2):=by
    rw[zdR hg _ _ _ ⟨by omega,by omega⟩,List.drop_eq_getElem_cons h];generalize ts[j]=t;have hb: -(j:Int)-1≤dep t d∧dep t d≤(j:Int)+1:=by unfold dep;(repeat' split)<;>omega
    unfold jQ grpL;rw[jo (by omega) (by omega)];by_cases h0:dep t d=0
    ·rw[decide_eq_true h0,cond_true,if_pos h0,za];exact congrArg some (Prod.ext (by dsimp only;omega) rfl)
    ·rw[decide_eq_false h0,cond_false,if_neg h0,za];have:=Xf (N:=N) hl (i:=i) k (j+1) (dep t d) (prt t d p) (by omega) (by omega) (by omega) (by omega) (by omega) (by omega);rw[show j+1-i=j-i+1 by omega]at this;exact this
   by_cases hji:j=i
   ·rw[decide_eq_true (show(j:Int)=(i:Int)by omega),cond_true];have hT:=hp hji;rw[←hji,zc9 hg]at hT;simp only[zW hg,jH hg,tc0,tc1,tc2,tc3,tc4,tc5,qi,qI,yD,jr,zY,qW,jR,Bool.and_true,za,yF,jz,zf];rw[←zma,hT,Bool.not_true,cond_false];exact main
   ·rw[decide_eq_false (show¬(j:Int)=(i:Int)by omega),cond_false];exact main
  ·rw[decide_eq_false (by rw[zq];omega),cond_false,List.drop_of_length_le (by omega)];rfl
theorem W8{N:Nat}{ts:List Token}(hl:ts.length≤1000)(hN:ts.length<N){i:Nat}(hi:i≤ts.length):Qb N (tkL ts) (i:Int)=some (((i+(grp ts i).1:Nat):Int),(grp ts i).2):=by
 unfold Qb grp;cases e:isT ts i 5 [[40]]with
 |true=>rw[if_pos rfl];have:=Xf (N:=N) hl (i:=i) N i 0 false (Nat.le_refl _) (fun _=>e) hi (by omega) (by omega) (by omega);rw[Nat.sub_self]at this;exact this
 |false=>
  rw[if_neg (by simp)];obtain⟨k,rfl⟩:∃k,N=k+1:=⟨N-1,by omega⟩
  show yL _ (ji _ k) (tkL ts) (i:Int) false 0 (i:Int)=_;unfold yL;by_cases h:i<ts.length
  ·have hg:ts[i]? =some ts[i]:=List.getElem?_eq_getElem h;rw[zc9 hg,zma]at e;rw[decide_eq_true (by rw[zq];omega),cond_true,decide_eq_true rfl,cond_true];simp only[zW hg,jH hg,tc0,tc1,tc2,tc3,tc4,tc5,qi,qI,yD,jr,zY,qW,jR,Bool.and_true,za,yF,jz,zf];rw[e,Bool.not_false,cond_true];rfl
  ·rw[decide_eq_false (by rw[zq];omega),cond_false];rfl
theorem zc2{N:Nat}{ts:List Token}(hl:ts.length≤1000)(hN:ts.length<N){n:Nat}(hn:n≤ts.length):jn N (tkL ts) (n:Int)=some (opG ts n:Int):=by
 have g1:=Wu ts n hn;unfold jn;rw[W8 hl hN hn,zf];dsimp only;have k1:∀b:Bool,qd N (tkL ts) ((n+(grp ts n).1:Nat):Int) b=some (((if b=true then(if(grp ts (n+(grp ts n).1)).2 then n+(grp ts n).1+(grp ts (n+(grp ts n).1)).1 else n+(grp ts n).1)else n+(grp ts n).1:Nat):Int)):=by
  intro b;unfold qd;cases b with
  |false=>rw[cond_false,if_neg (by simp)]
  |true=>
   rw[cond_true,if_pos rfl,W8 hl hN (by omega),zf];dsimp only;cases(grp ts (n+(grp ts n).1)).2 with
   |true=>rw[cond_true,if_pos rfl]
   |false=>rw[cond_false,if_neg (by simp)]
 by_cases h0:0<(grp ts n).1
 ·rw[decide_eq_true (show(n:Int)<((n+(grp ts n).1:Nat):Int)by omega),cond_true,k1];unfold opG;cases(grp ts n).2 with
  |true=>simp
  |false=>simp[h0]
 ·rw[decide_eq_false (show¬(n:Int)<((n+(grp ts n).1:Nat):Int)by omega),cond_false,k1,if_neg (by simp)];unfold opG;rw[if_neg (fun h=>h0 h.1)]
theorem zna{ts:List Token}{n:Nat}{t:Token}(h:ts[n]? =some t):isT ts n 1 [[79,70],[73,78]]=(decide (t.Kind=1)&&(decide (t.Text=[79,70])||decide (t.Text=[73,78]))):=by unfold isT;rw[h];simp
theorem Y4{N:Nat}{ts:List Token}(hl:ts.length≤1000)(hN:ts.length<N)(hw:∀t∈ts,Wd t):∀(k f n:Nat),n≤ts.length→ts.length-n<k→ts.length-n<f+1→
  yA N k (tkL ts) (n:Int)=some (opG ts (ofN ts f n):Int)
 |0,_,_,_,h,_=>by omega
 |k+1,f,n,hn,hk,hf=>by
  show ZD N (yA N k) (tkL ts) (n:Int)=_;have stop:yn ts n=false→ofN ts f n=n:=fun h=>by
   cases f with
   |zero=>rfl
   |succ f=>rw[jO,h];rfl
  have no:yn ts n=false→jn N (tkL ts) (n:Int)=some (opG ts (ofN ts f n):Int):=fun h=>by rw[stop h];exact zc2 hl hN hn
  unfold ZD;rw[jo (by omega) (by omega),za,jo (by omega) (by omega)];by_cases h:n+1<ts.length
  ·have hg:ts[n]? =some ts[n]:=List.getElem?_eq_getElem (by omega);have hg1:ts[n+1]? =some ts[n+1]:=List.getElem?_eq_getElem h;have e1:(n:Int)+1=((n+1:Nat):Int):=rfl;have e2:(n:Int)+2=((n+2:Nat):Int):=rfl;rw[e1,e2,decide_eq_true (by rw[zq];omega),cond_true];simp only[zW hg,jH hg,zW hg1,jH hg1,tc0,tc1,tc2,tc3,tc4,tc5,qi,qI,yD,jr,zY,qW,jR,Bool.and_true,za,yF];rw[zc1 hg1 (hw _ (List.getElem_mem h)),zf];have lk:yn ts n=((decide (ts[n].Kind=1)&&(decide (ts[n].Text=[79,70])||decide (ts[n].Text=[73,78])))&&nmT ts (n+1)):=by unfold yn;rw[zna hg]
   have yes:yn ts n=true→yA N k (tkL ts) ((n+2:Nat):Int)=some (opG ts (ofN ts f n):Int):=fun h'=>by
    cases f with
    |zero=>omega
    |succ f=>rw[jO,h',if_pos rfl];exact Y4 hl hN hw k f (n+2) (by omega) (by omega) (by omega)
   by_cases hk1:ts[n].Kind=1
   ·rw[decide_eq_true hk1,cond_true];rw[decide_eq_true hk1,Bool.true_and]at lk;by_cases ha:ts[n].Text=[79,70]
    ·rw[decide_eq_true ha,cond_true];rw[decide_eq_true ha,Bool.true_or,Bool.true_and]at lk;cases hb:nmT ts (n+1)with
     |true=>rw[cond_true];exact yes (lk.trans hb)
     |false=>rw[cond_false];exact no (lk.trans hb)
    ·rw[decide_eq_false ha,cond_false];rw[decide_eq_false ha,Bool.false_or]at lk;by_cases hc:ts[n].Text=[73,78]
     ·rw[decide_eq_true hc,cond_true];rw[decide_eq_true hc,Bool.true_and]at lk;cases hb:nmT ts (n+1)with
      |true=>rw[cond_true];exact yes (lk.trans hb)
      |false=>rw[cond_false];exact no (lk.trans hb)
     ·rw[decide_eq_false hc,cond_false];rw[decide_eq_false hc,Bool.false_and]at lk;exact no lk
   ·rw[decide_eq_false hk1,cond_false];rw[decide_eq_false hk1,Bool.false_and,Bool.false_and]at lk;exact no lk
  ·rw[decide_eq_false (by rw[zq];omega),cond_false];refine no ?_;cases e:yn ts n with
   |false=>rfl
   |true=>exact absurd (JX e) h
theorem JY{N:Nat}{ts:List Token}(hl:ts.length≤1000)(hN:ts.length<N)(hw:∀t∈ts,Wd t):qx N (tkL ts)=some (oplT ts:Int):=by
 unfold qx;cases ts with
 |nil=>rfl
 |cons t r=>
  have hg:(t::r)[0]? =some t:=rfl;have g:=zW hg;have gi:=jH hg;rw[show(((0:Nat):Int))=(0:Int)from rfl]at g gi;rw[decide_eq_false (by rw[zq];simp only[List.length_cons];omega),cond_false];simp only[g,gi,tc0,tc1,tc2,tc3,tc4,tc5,qi,qI,yD,jr,zY,qW,jR,Bool.and_true,za,yF];have hwt:Wd t:=hw t List.mem_cons_self;rw[zc1 hg hwt,zf];cases hn:nmT (t::r) 0 with
  |true=>rw[Bool.not_true,cond_false,Jn hn];exact Y4 hl hN hw N _ 1 (by simp) (by simp only[List.length_cons]at hN⊢;omega) (by simp only[List.length_cons];omega)
  |false=>
   rw[Bool.not_false,cond_true];have e:oplT (t::r)=if t.Kind=2∨t.Kind=3∨(t.Kind=1∧YZ t.Text Zp=3)then 1 else 0:=by unfold oplT opd;rw[hn,if_neg (by simp)];dsimp only[List.getElem?_cons_zero];split<;>rfl
   rw[e];by_cases h2:t.Kind=2
   ·rw[decide_eq_true h2,cond_true,if_pos (.inl h2)];rfl
   ·rw[decide_eq_false h2,cond_false];by_cases h3:t.Kind=3
    ·rw[decide_eq_true h3,cond_true,if_pos (.inr (.inl h3))];rfl
    ·rw[decide_eq_false h3,cond_false];by_cases h1:t.Kind=1
     ·rw[decide_eq_true h1,cond_true,zay (hwt h1),zf];by_cases h4:YZ t.Text Zp=3
      ·rw[decide_eq_true h4,cond_true,if_pos (.inr (.inr ⟨h1,h4⟩))];rfl
      ·rw[decide_eq_false h4,cond_false,if_neg (by simp[h2,h3,h4])];rfl
     ·rw[decide_eq_false h1,cond_false,if_neg (by simp[h1,h2,h3])];rfl
end Go.Proofs.C06
end
section
set_option maxRecDepth 100000
namespace Go.Proofs.C06
open Go Go.RowKit Go.Vc Go.Am Go.Sp
theorem zcm(ts:List Token)(a b:Nat):Am.subL (tkL ts) (a:Int) (b:Int)=tkL ((ts.take b).drop a):=by unfold Am.subL tkL;rw[Int.toNat_natCast,Int.toNat_natCast,List.map_drop,List.map_take]
theorem XR(ts:List Token)(a:Nat):Am.subL (tkL ts) (a:Int) ((tkL ts).length:Int)=tkL (ts.drop a):=by rw[zcm,zq,List.take_length]
theorem qX{a b:Nat}{n:Nat}(h:a≤b)(h2:b≤n):zL (a:Int) (b:Int) n=true:=by unfold zL;rw[decide_eq_true (show(0:Int)≤(a:Int)by omega),decide_eq_true (show(a:Int)≤(b:Int)by omega),decide_eq_true (show(b:Int)≤(n:Int)by omega)];rfl
def m01(b:Bool):Int:=match b with
 |true=>1
 |false=>0
def MkR(pre:List Int)(o:Option (List Bool))(q:List Int×Bool):Prop:=match o with
 |some os=>q=(pre++os.map m01,true)
 |none=>q.2=false
theorem zq2{pre:List Int}{o:Option (List Bool)}{q:List Int×Bool}{m:Bool}(h:MkR (pre++[m01 m]) o q):MkR pre (o.map (m:: ·)) q:=by
 cases o with
 |none=>exact h
 |some os=>
  have h:q=((pre++[m01 m])++os.map m01,true):=h;show q=(pre++(m::os).map m01,true)
  rw[h,List.append_assoc];rfl
theorem zvj{pre:List Int}{o:Option (List Bool)}{q:List Int×Bool}{j:Nat}(h:MkR (pre++List.replicate j 0) o q):MkR pre (o.map (List.replicate j false++ ·)) q:=by
 cases o with
 |none=>exact h
 |some os=>
  have h:q=((pre++List.replicate j 0)++os.map m01,true):=h;show q=(pre++(List.replicate j false++os).map m01,true)
  rw[h,List.append_assoc,List.map_append,List.map_replicate];rfl
theorem XY(pre:List Int)(j:Nat):pre++List.replicate (j+1) (0:Int)=(pre++[m01 false])++List.replicate j 0:=by rw[List.append_assoc];rfl
theorem zuZ(pre:List Int)(j:Nat):(pre++List.replicate (j+1) (0:Int)).set pre.length 1=(pre++[m01 true])++List.replicate j 0:=by rw[List.append_assoc,List.set_append_right _ _ (Nat.le_refl _),Nat.sub_self];rfl
theorem qZ{ts r:List Token}{i:Nat}{t:Token}(h:ts.drop i=t::r):ts[i]? =some t∧ts.drop (i+1)=r∧i<ts.length:=by
 have h1:ts[i]? =some t:=by have:=congrArg (·[0]?) h;simpa using this
 exact⟨h1,by rw[←List.drop_drop,h];rfl,(List.getElem?_eq_some_iff.1 h1).1⟩
theorem zxE{T:Type}{L:Lx T}{n d:Nat}{t:T}{r:List T}(h:L.lp t=true):sc L (n+1) (t::r) d false=(sc L n r (d+1) false).map (false:: ·):=by rw[jU,if_pos ⟨rfl,h⟩]
theorem zxA{T:Type}{L:Lx T}{n d:Nat}{t:T}{r:List T}(h:L.lp t=false)(h2:L.pm t=true):sc L (n+1) (t::r) d false=match r with
  |[]=>none
  |u::_=>if L.pm u=true then none else(sc L n r d false).map (false:: ·):=by
 rw[jU,if_neg (fun e=>by rw[h]at e;cases e.2),if_neg (fun e=>by cases e.1),if_neg (fun e=>by cases e.1),if_pos ⟨rfl,h2⟩];first|done|(cases r<;>rfl)
theorem zxD{T:Type}{L:Lx T}{n d:Nat}{t:T}{r:List T}(h:L.lp t=false)(h2:L.pm t=false):sc L (n+1) (t::r) d false=if L.opl (t::r)=0 then none else(sc L n (r.drop (L.opl (t::r)-1)) d true).map (List.replicate (L.opl (t::r)) false++ ·):=by
 rw[jU,if_neg (fun e=>by rw[h]at e;cases e.2),if_neg (fun e=>by cases e.1),if_neg (fun e=>by cases e.1),if_neg (fun e=>by rw[h2]at e;cases e.2)];by_cases e:L.opl (t::r)=0
 ·rw[if_pos (.inr e),if_pos e]
 ·rw[if_neg (by rintro(h|h);{cases h};exact e h),if_neg e]
theorem zxB{T:Type}{L:Lx T}{n d:Nat}{t:T}{r:List T}(h:L.rp t=true):sc L (n+1) (t::r) d true=match d with
  |0=>none
  |d+1=>(sc L n r d true).map (false:: ·):=by
 rw[jU,if_neg (fun e=>by cases e.1),if_pos ⟨rfl,h⟩];first|done|(cases d<;>rfl)
theorem zxC{T:Type}{L:Lx T}{n d:Nat}{t:T}{r:List T}(h:L.rp t=false)(h2:jS L t=true):sc L (n+1) (t::r) d true=(sc L n r d false).map (decide (d=0):: ·):=by rw[jU,if_neg (fun e=>by cases e.1),if_neg (fun e=>by rw[h]at e;cases e.2),if_pos ⟨rfl,h2⟩]
theorem zwx{T:Type}{L:Lx T}{n d:Nat}{t:T}{r:List T}(h:L.rp t=false)(h2:jS L t=false):sc L (n+1) (t::r) d true=none:=by rw[jU,if_neg (fun e=>by cases e.1),if_neg (fun e=>by rw[h]at e;cases e.2),if_neg (fun e=>by rw[h2]at e;cases e.2),if_neg (fun e=>by cases e.1),if_pos (.inl rfl)]
theorem Y3{N:Nat}{ts:List Token}(hl:ts.length≤1000)(hN:ts.length<N)(hw:∀t∈ts,Wd t):∀(k n:Nat)(r:List Token)(i d:Nat)(b:Bool)(pre:List Int),ts.drop i=r→i≤ts.length→r.length<k→r.length<n→d≤i→pre.length=i→
  ∃q,jf N k (tkL ts) (d:Int) b (i:Int) (pre++List.replicate r.length 0)=some q∧MkR pre (sc zF n r d b) q
 |0,_,_,_,_,_,_,_,_,h,_,_,_=>by omega
 |_+1,0,_,_,_,_,_,_,_,_,h,_,_=>by omega
 |k+1,n+1,[],i,d,b,pre,hr,hi,_,_,hd,hp=>by
  have hlen:ts.length≤i:=by have:=congrArg List.length hr;rw[List.length_drop]at this;simp at this;omega
  show∃q,qT N (jf N k) (tkL ts) (d:Int) b (i:Int) (pre++[])=some q∧_;unfold qT;rw[decide_eq_false (by rw[zq];omega),cond_false,List.append_nil,zcu];cases b with
  |false=>exact⟨_,rfl,rfl⟩
  |true=>
   by_cases h0:d=0
   ·subst h0;exact⟨_,rfl,by show _=_;simp⟩
   ·refine⟨_,rfl,?_⟩;rw[if_neg (fun h=>h0 h.2)];show decide ((d:Int)=0)=false;exact decide_eq_false (by omega)
 |k+1,n+1,t::r,i,d,b,pre,hr,hi,hk,hn,hd,hp=>by
  obtain⟨hg,hr',hlt⟩:=qZ hr;have hlen:r.length+(i+1)=ts.length:=by have:=congrArg List.length hr;rw[List.length_drop,List.length_cons]at this;omega
  simp only[List.length_cons]at hk hn;have one:∀(d':Nat)(b' m:Bool),d'≤i+1→∃q,jf N k (tkL ts) (d':Int) b' ((i+1:Nat):Int) ((pre++[m01 m])++List.replicate r.length 0)=some q∧MkR pre ((sc zF n r d' b').map (m:: ·)) q:=fun d' b' m hd'=>by obtain⟨q,h1,h2⟩:=Y3 hl hN hw k n r (i+1) d' b' (pre++[m01 m]) hr' (by omega) (by omega) (by omega) hd' (by simp[hp]);exact⟨q,h1,zq2 h2⟩
  have i1:(i:Int)+1=((i+1:Nat):Int):=rfl;have j1:inKb .i64 ((i+1:Nat):Int)=true:=jo (by omega) (by omega);have rl:(pre++List.replicate (r.length+1) (0:Int)).length=ts.length:=by rw[List.length_append,List.length_replicate,hp];omega
  have ixr:inIx (i:Int) (pre++List.replicate (r.length+1) (0:Int)).length=true:=zC.2 ⟨by omega,by rw[rl];omega⟩;have hwr:∀u∈t::r,Wd u:=fun u hu=>hw u (by rw[←hr]at hu;exact List.mem_of_mem_drop hu)
  show∃q,qT N (jf N k) (tkL ts) (d:Int) b (i:Int) (pre++List.replicate (r.length+1) 0)=some q∧_;unfold qT;rw[decide_eq_true (by rw[zq];omega),cond_true];have hle:oplT (t::r)≤r.length+1:=znF (t::r);have k4:∀b':Bool,yU N (jf N k) (tkL ts) (d:Int) b' (i:Int) false (pre++List.replicate (r.length+1) 0)=(cond b' (some (pre++List.replicate (r.length+1) 0,false)) (cond (decide ((oplT (t::r):Int)=0)) (some (pre++List.replicate (r.length+1) 0,false)) (chk (inKb .i64 ((i:Int)+(oplT (t::r):Int))) (jf N k (tkL ts) (d:Int) true ((i:Int)+(oplT (t::r):Int)) (pre++List.replicate (r.length+1) 0))))):=fun b'=>by unfold yU;rw[cond_false,qX (by rw[zq];omega) (Nat.le_refl _),za,XR,hr,JY (by simp only[List.length_cons];omega) (by simp only[List.length_cons];omega) hwr,zf]
  cases b with
  |false=>
   rw[Bool.not_false,cond_true];simp only[zW hg,jH hg,tc0,tc1,tc2,tc3,tc4,tc5,qi,qI,yD,jr,zY,qW,jR,Bool.and_true,za,yF,jz,zf];unfold Js;cases h40:isO t [40]with
   |true=>rw[zxE (L:=zF) h40,cond_true,jo (by omega) (by omega),za,i1,j1,za,show(d:Int)+1=((d+1:Nat):Int)from rfl,XY];exact one (d+1) false false (by omega)
   |false=>
    rw[cond_false,cond_false];unfold Jr;rw[cond_false,cond_false];unfold yb;rw[cond_false,Bool.not_false,cond_true];simp only[zW hg,jH hg,tc0,tc1,tc2,tc3,tc4,tc5,qi,qI,yD,jr,zY,qW,jR,Bool.and_true,za,yF,jz,zf];have two:∀z:Bool,z=tPm t→∃q,yU N (jf N k) (tkL ts) (d:Int) false (i:Int) z (pre++List.replicate (r.length+1) 0)=some q∧MkR pre (sc zF (n+1) (t::r) d false) q:=fun z hz=>by
     cases z with
     |false=>
      rw[zxD (L:=zF) h40 hz.symm,k4,cond_false];show∃q,_∧MkR pre (if oplT (t::r)=0 then none else(sc zF n (r.drop (oplT (t::r)-1)) d true).map (List.replicate (oplT (t::r)) false++ ·)) q;generalize oplT (t::r)=o at hle;by_cases h0:o=0
      ·rw[decide_eq_true (by omega),cond_true,if_pos h0];exact⟨_,rfl,rfl⟩
      ·rw[decide_eq_false (by omega),cond_false,if_neg h0,show(i:Int)+(o:Int)=((i+o:Nat):Int)by omega,jo (by omega) (by omega),za];have hd2:ts.drop (i+o)=r.drop (o-1):=by rw[←hr',List.drop_drop];exact congrArg (fun z=>ts.drop z) (by omega)
       have hlen2:(r.drop (o-1)).length+o=r.length+1:=by rw[List.length_drop];omega
       obtain⟨q,h1,h2⟩:=Y3 hl hN hw k n (r.drop (o-1)) (i+o) d true (pre++List.replicate o 0) hd2 (by omega) (by omega) (by omega) (by omega) (by simp[hp]);refine⟨q,?_,zvj h2⟩;rw[←h1,List.append_assoc,List.replicate_append_replicate,Nat.add_comm o,hlen2]
     |true=>
      rw[zxA (L:=zF) h40 hz.symm];unfold yU;rw[cond_true,i1,j1,za];cases r with
      |nil=>rw[decide_eq_true (by rw[zq];simp only[List.length_nil]at hlen;omega),cond_true];exact⟨_,rfl,rfl⟩
      |cons u r2=>
       obtain⟨hg2,_,hlt2⟩:=qZ hr';rw[decide_eq_false (by rw[zq];omega),cond_false,za];simp only[zW hg2,jH hg2,tc0,tc1,tc2,tc3,tc4,tc5,qi,qI,yD,jr,zY,qW,jR,Bool.and_true,za,yF,jz,zf];have eu:zF.pm u=(isO u [43]||isO u [45]):=rfl;rw[eu];cases isO u [43]with
       |true=>rw[cond_true,Bool.true_or,if_pos rfl];exact⟨_,rfl,rfl⟩
       |false=>
        rw[cond_false,Bool.false_or];cases isO u [45]with
        |true=>rw[cond_true,if_pos rfl];exact⟨_,rfl,rfl⟩
        |false=>rw[cond_false,if_neg (by simp)];have:=one d false false (by omega);rw[←XY]at this;exact this
    cases h43:isO t [43]with
    |true=>rw[cond_true];exact two true (by unfold tPm;rw[h43];rfl)
    |false=>rw[cond_false];exact two _ (by unfold tPm;rw[h43];rfl)
  |true=>
   rw[Bool.not_true,cond_false];unfold Js;rw[cond_false,cond_true];simp only[zW hg,jH hg,tc0,tc1,tc2,tc3,tc4,tc5,qi,qI,yD,jr,zY,qW,jR,Bool.and_true,za,yF,jz,zf];unfold Jr;cases h41:isO t [41]with
   |true=>
    rw[zxB (L:=zF) h41,cond_true,jo (by omega) (by omega),za];cases d with
    |zero=>exact⟨_,rfl,rfl⟩
    |succ d=>rw[decide_eq_false (by omega),cond_false,i1,j1,za,show((d+1:Nat):Int)-1=(d:Int)by omega,XY];exact one d true false (by omega)
   |false=>
    rw[cond_false,cond_true];simp only[zW hg,jH hg,tc0,tc1,tc2,tc3,tc4,tc5,qi,qI,yD,jr,zY,qW,jR,Bool.and_true,za,yF,jz,zf];have two:∀z:Bool,z=jS zF t→∃q,yb N (jf N k) (tkL ts) (d:Int) true (i:Int) z (pre++List.replicate (r.length+1) 0)=some q∧MkR pre (sc zF (n+1) (t::r) d true) q:=fun z hz=>by
     unfold yb;cases z with
     |false=>rw[zwx (L:=zF) h41 hz.symm,cond_false,Bool.not_true,cond_false,k4,cond_true];exact⟨_,rfl,rfl⟩
     |true=>
      rw[zxC (L:=zF) h41 hz.symm,cond_true];by_cases h0:d=0
      ·subst h0;rw[decide_eq_true (show((0:Nat):Int)=0 from rfl),cond_true,ixr,za,za,i1,j1,za,Int.toNat_natCast,show(pre++List.replicate (r.length+1) (0:Int)).set i 1=(pre++[m01 true])++List.replicate r.length 0 by rw[←hp];exact zuZ _ _];exact one 0 false true (by omega)
      ·rw[decide_eq_false (by omega),cond_false,i1,j1,za,XY,decide_eq_false h0];exact one d false false (by omega)
    have ea:jS zF t=((isO t [43]||isO t [45])||((isO t [42]||isO t [47])||isO t [42,42])):=rfl;cases a1:isO t [43]with
    |true=>rw[cond_true];exact two true (by rw[ea,a1];rfl)
    |false=>
     rw[cond_false];cases a2:isO t [45]with
     |true=>rw[cond_true];exact two true (by rw[ea,a1,a2];rfl)
     |false=>
      rw[cond_false];cases a3:isO t [42]with
      |true=>rw[cond_true];exact two true (by rw[ea,a1,a2,a3];rfl)
      |false=>
       rw[cond_false];cases a4:isO t [47]with
       |true=>rw[cond_true];exact two true (by rw[ea,a1,a2,a3,a4];rfl)
       |false=>rw[cond_false];exact two _ (by rw[ea,a1,a2,a3,a4];rfl)
theorem mk8{n:Nat}(h:n≤1000):zgG 8 (n:Int)=true:=by show(Nat.ble (8*n) 281474976710656&&Nat.ble n 9223372036854775807)=true;rw[Nat.ble_eq_true_of_le (by omega),Nat.ble_eq_true_of_le (by omega)];rfl
theorem zet{N:Nat}{ts:List Token}(hl:ts.length≤1000)(hN:ts.length<N)(hw:∀t∈ts,Wd t):∃q,Jf N (tkL ts)=some q∧MkR [] (sc zF (ts.length+1) ts 0 false) q:=by unfold Jf;rw[zq,mk8 hl,decide_eq_true rfl,Bool.true_and,za,Int.toNat_natCast];exact Y3 hl hN hw N (ts.length+1) ts 0 0 false [] rfl (Nat.zero_le _) hN (Nat.lt_succ_self _) (Nat.le_refl _) rfl
end Go.Proofs.C06
end
section
set_option maxRecDepth 100000
namespace Go.Proofs.C06
open Go Go.RowKit Go.Vc Go.Am Go.Sp
def XB(aa b:List UInt8)(t:Token):Bool:=decide (t.Text=aa)||decide (t.Text=b)
def Zb(k:Int)(i:Nat)(o:Option Nat):Int:=match o with
 |some j=>((i+j:Nat):Int)
 |none=>k
theorem Xz(p:Token→Bool)(b:Bool)(os:List Bool)(t:Token)(ts:List Token):zM p (b::os) (t::ts)=match zM p os ts with
  |some i=>some (i+1)
  |none=>if(b&&p t)=true then some 0 else none:=by
 rw[zM];first|done|(cases zM p os ts<;>rfl)
theorem zmo(L:List Int)(m:Nat):atI L (m:Int)=L.getD m 0:=by unfold atI;rw[Int.toNat_natCast]
theorem W5{N:Nat}{ts:List Token}(hl:ts.length≤1000){os:List Bool}(ho:os.length=ts.length)(aa b:List UInt8):∀(k i:Nat)(k1:Int)(r:List Token)(q:List Bool),ts.drop i=r→os.drop i=q→i≤ts.length→r.length<k→
  qw N k (tkL ts) (os.map m01) aa b k1 (i:Int)=some (Zb k1 i (zM (XB aa b) q r))
 |0,_,_,_,_,_,_,_,h=>by omega
 |k+1,i,k1,[],q,hr,hq,hi,hk=>by
  have hlen:ts.length≤i:=by have:=congrArg List.length hr;rw[List.length_drop]at this;simp at this;omega
  show qR N (qw N k) (tkL ts) (os.map m01) aa b k1 (i:Int)=_;unfold qR;rw[decide_eq_false (by rw[zq];omega),cond_false];have:zM (XB aa b) q []=none:=by cases q<;>rw[zM];all_goals simp
  rw[this];rfl
 |k+1,i,k1,t::r,q,hr,hq,hi,hk=>by
  obtain⟨hg,hr',hlt⟩:=qZ hr;have hlt2:i<os.length:=by omega
  obtain⟨m,q',rfl⟩:∃m q',q=m::q':=⟨os[i],os.drop (i+1),by rw[←hq,List.drop_eq_getElem_cons hlt2]⟩
  have hm:os[i]? =some m:=by have:=congrArg (·[0]?) hq;simpa using this
  have hq':os.drop (i+1)=q':=by rw[←List.drop_drop,hq];rfl
  simp only[List.length_cons]at hk;show qR N (qw N k) (tkL ts) (os.map m01) aa b k1 (i:Int)=_;unfold qR;have ix:inIx (i:Int) (os.map m01).length=true:=zC.2 ⟨by omega,by rw[List.length_map];omega⟩;have ea:atI (os.map m01) (i:Int)=m01 m:=by rw[zmo,List.getD_eq_getElem?_getD,List.getElem?_map,hm];rfl
  have i1:(i:Int)+1=((i+1:Nat):Int):=rfl;have j1:inKb .i64 ((i+1:Nat):Int)=true:=jo (by omega) (by omega);have next:∀k2:Int,qw N k (tkL ts) (os.map m01) aa b k2 ((i+1:Nat):Int)=some (Zb k2 (i+1) (zM (XB aa b) q' r)):=fun k2=>W5 hl ho aa b k (i+1) k2 r q' hr' hq' (by omega) (by omega)
  have fin:∀k2:Int,k2=Zb k1 i (if(m&&XB aa b t)=true then some 0 else none)→Zb k2 (i+1) (zM (XB aa b) q' r)=Zb k1 i (zM (XB aa b) (m::q') (t::r)):=fun k2 h2=>by
   rw[Xz];cases zM (XB aa b) q' r with
   |some j=>show((i+1+j:Nat):Int)=((i+(j+1):Nat):Int);omega
   |none=>exact h2
  rw[decide_eq_true (by rw[zq];omega),cond_true,ix,za,ea,i1,j1];simp only[zW hg,jH hg,tc0,tc1,tc2,tc3,tc4,tc5,qI,jr,zY,qW,jR,Bool.and_true,za,next];cases m with
  |false=>show cond (decide ((0:Int)=1)) _ _=_;rw[decide_eq_false (by decide),cond_false];exact congrArg some (fin k1 rfl)
  |true=>
   show cond (decide ((1:Int)=1)) _ _=_;rw[decide_eq_true rfl,cond_true];by_cases h1:t.Text=aa
   ·rw[decide_eq_true h1,cond_true];refine congrArg some (fin _ ?_);unfold XB;rw[decide_eq_true h1,Bool.true_or];rfl
   ·rw[decide_eq_false h1,cond_false];by_cases h2:t.Text=b
    ·rw[decide_eq_true h2,cond_true];refine congrArg some (fin _ ?_);unfold XB;rw[decide_eq_true h2,Bool.or_true];rfl
    ·rw[decide_eq_false h2,cond_false];refine congrArg some (fin _ ?_);unfold XB;rw[decide_eq_false h1,decide_eq_false h2];rfl
theorem Wn{N:Nat}{ts:List Token}(hl:ts.length≤1000)(hN:ts.length<N){os:List Bool}(ho:os.length=ts.length)(aa b:List UInt8):Y2 N (tkL ts) (os.map m01) aa b=some (Zb (-1) 0 (zM (XB aa b) os ts)):=
 W5 hl ho aa b N 0 (-1) ts os rfl rfl (Nat.zero_le _) hN
theorem ZX{p q:Token→Bool}:∀(os:List Bool)(ts:List Token),(∀(i:Nat)(t:Token),os[i]? =some true→ts[i]? =some t→p t=q t)→zM p os ts=zM q os ts
 |[],ts,_=>by cases ts<;>rw[zM,zM]<;>simp
 |b::os,[],_=>by rw[zM,zM];all_goals simp
 |b::os,t::ts,h=>by
  rw[Xz,Xz,ZX os ts fun i u h1 h2=>h (i+1) u h1 h2];cases zM q os ts with
  |some i=>rfl
  |none=>
   cases b with
   |false=>rfl
   |true=>rw[h 0 t rfl rfl]
theorem zqQ{T:Type}{L:Lx T}{k:Nat}{e:Ex T}(g:G L k e):∀(i:Nat)(t:T),(outs L e)[i]? =some true→e.toks[i]? =some t→jS L t=true:=by
 have rep:∀(n i:Nat),(List.replicate n false)[i]? =some true→False:=fun n i h=>by rw[List.getElem?_replicate]at h;split at h<;>cases h
 induction g with
 |leaf=>intro i t h1 _;exact absurd h1 (fun h=>rep _ _ h)
 |par=>intro i t h1 _;exact absurd h1 (fun h=>rep _ _ h)
 |sgn=>intro i t h1 _;exact absurd h1 (fun h=>rep _ _ h)
 |up _ _ ih=>exact ih
 | @bin k t a b hk ho ha hb iha ihb=>
  intro i u h1 h2;have h1:(outs L a++true::outs L b)[i]? =some true:=h1;have h2:(a.toks++t::b.toks)[i]? =some u:=h2;by_cases hi:i<a.toks.length
  ·rw[List.getElem?_append_left (by rw[qO];exact hi)]at h1;rw[List.getElem?_append_left hi]at h2;exact iha i u h1 h2
  ·rw[List.getElem?_append_right (by rw[qO];omega),qO]at h1;rw[List.getElem?_append_right (by omega)]at h2;generalize i-a.toks.length=j at h1 h2;cases j with
   |zero=>cases h2;exact opk_any ho
   |succ j=>exact ihb j u h1 h2
theorem WN{t:Token}(h:jS zF t=true):tPm t=XB [43] [45] t∧tMd t=XB [42] [47] t∧tPw t=XB [42,42] [42,42] t:=by have hk:t.Kind=5:=Qv (by rw[show(tPm t||(tMd t||tPw t))=true from h,Bool.or_true,Bool.or_true]);unfold tPm tMd tPw XB isO;rw[decide_eq_true hk];simp only[Bool.true_and,Bool.or_self,and_self]
def zix(t:Token):List UInt8:=if t.Kind=3 then([34]++Lib.replaceAll t.Text [34] [34,34])++[34]else if t.Kind=6 then[46]else if t.Kind=7 then[61,61]else t.Text
def ktx(l:List Token):List UInt8:=Lib.join (l.map zix) [32]
def Sh(t:Token):Prop:=t.Text.length≤8
theorem X0(old new:List UInt8):∀(k:Nat)(s:List UInt8),(Lib.replaceK old new k s).length≤s.length+k*new.length
 |0,s=>by rw[Lib.replaceK];omega
 |k+1,s=>by
  rw[Lib.replaceK];split
  ·omega
  ·have:=X0 old new k (s.drop ((Lib.index s old).toNat+old.length));rw[List.length_append,List.length_append,List.length_take];rw[List.length_drop]at this;rw[Nat.succ_mul];omega
theorem YH{s:List UInt8}(h:s.length≤8):(Lib.replaceAll s [34] [34,34]).length≤26:=by
 unfold Lib.replaceAll Lib.replace;split
 ·omega
 ·have h1:=X0 [34] [34,34] (Lib.replaceNum s [34] (-1)) s;have h2:Lib.replaceNum s [34] (-1)≤9:=by unfold Lib.replaceNum;rw[if_pos (.inl (by decide))];have:=Lib.count_le s [34];omega
  simp only[List.length_cons,List.length_nil]at h1;omega
theorem ziw{t:Token}(h:Sh t):(zix t).length≤28:=by
 unfold zix;split
 ·have:=YH h;rw[List.length_append,List.length_append];simp only[List.length_cons,List.length_nil];omega
 ·split
  ·decide
  ·split
   ·decide
   ·unfold Sh at h;omega
theorem zl8:∀(xs:List (List UInt8)),(∀x∈xs,x.length≤28)→(Lib.join xs [32]).length≤29*xs.length
 |[],_=>by rw[Lib.join_nil];simp
 |x::r,h=>by
  have lens:∀l:List (List UInt8),(∀x∈l,x.length≤28)→Lib.lens l≤28*l.length:=by
   intro l;induction l with
   |nil=>intro _;exact Nat.le_refl _
   |cons y l ih=>
    intro h;have:=ih fun z hz=>h z (List.mem_cons_of_mem _ hz)
    have:=h y List.mem_cons_self;show y.length+Lib.lens l≤_;rw[List.length_cons];omega
  have:=lens (x::r) h;rw[Lib.join_length];simp only[List.length_cons,List.length_nil]at this⊢;omega
theorem zvq{l:List Token}(h:∀t∈l,Sh t):(ktx l).length≤29*l.length:=by
 have:=zl8 (l.map zix) fun x hx=>by obtain⟨t,ht,rfl⟩:=List.mem_map.1 hx;exact ziw (h t ht)
 rw[List.length_map]at this;exact this
theorem je{a b:List UInt8}(h1:a.length≤1000000)(h2:b.length≤1000000):zB a b=true:=zeJ.2 (by omega)
theorem zw7{n:Nat}(h:n≤2000):growOk 16 n=true:=by unfold growOk;rw[Nat.ble_eq_true_of_le (by omega),Nat.ble_eq_true_of_le (by omega)];rfl
theorem zc0{s:List UInt8}(h:s.length≤8):qS s [34] [34,34]=some (Lib.replaceAll s [34] [34,34]):=by unfold qS;rw[decide_eq_true (by omega),decide_eq_true (by decide),decide_eq_true (by simp only[List.length_cons,List.length_nil];omega)];rfl
theorem zra{xs:List (List UInt8)}(hn:xs.length≤2000)(h:∀x∈xs,x.length≤28):ziq xs [32]=some (Lib.join xs [32]):=by have:=zl8 xs h;unfold ziq;rw[decide_eq_true (by omega),decide_eq_true (by omega)];rfl
theorem zvr(N:Nat)(go:((List AV×Int×Int)⊕(List AV×Int×Int×List (List UInt8)))→Option (List UInt8))(a:List AV)(b c:Int):zab N go a b c=yp N go a b c []:=rfl
theorem zkk{N:Nat}{go:((List AV×Int×Int)⊕(List AV×Int×Int×List (List UInt8)))→Option (List UInt8)}{ts:List Token}(hl:ts.length≤1000){i:Nat}{t:Token}(hg:ts[i]? =some t)(hs:Sh t){b0:List (List UInt8)}(hb:b0.length≤1000):
  yp N go (tkL ts) (ts.length:Int) (i:Int) b0=go (.inr (tkL ts,(ts.length:Int),((i+1:Nat):Int),b0++[zix t])):=by
 have hlt:=(List.getElem?_eq_some_iff.1 hg).1;have i1:(i:Int)+1=((i+1:Nat):Int):=rfl;have j1:inKb .i64 ((i+1:Nat):Int)=true:=jo (by omega) (by omega);have g1:∀x:List UInt8,growOk 16 (b0++[x]).length=true:=fun x=>zw7 (by simp;omega)
 have hr:=YH hs;have c1:zB [34] (Lib.replaceAll t.Text [34] [34,34])=true:=je (by simp) (by omega);have c2:zB ([34]++Lib.replaceAll t.Text [34] [34,34]) [34]=true:=je (by simp;omega) (by simp);unfold yp;rw[decide_eq_true (by omega),cond_true,i1];simp only[zW hg,jH hg,tc0,tc1,tc2,tc3,tc4,tc5,qi,qI,jr,zY,qW,jR,Bool.and_true,za,j1,g1,zc0 hs,zf,c1,c2];unfold zix;by_cases h3:t.Kind=3
 ·rw[decide_eq_true h3,cond_true,if_pos h3]
 ·rw[decide_eq_false h3,cond_false,if_neg h3];by_cases h6:t.Kind=6
  ·rw[decide_eq_true h6,cond_true,if_pos h6]
  ·rw[decide_eq_false h6,cond_false,if_neg h6];by_cases h7:t.Kind=7
   ·rw[decide_eq_true h7,cond_true,if_pos h7]
   ·rw[decide_eq_false h7,cond_false,if_neg h7]
theorem zm8{N:Nat}{go:((List AV×Int×Int)⊕(List AV×Int×Int×List (List UInt8)))→Option (List UInt8)}{ts:List Token}{i:Nat}(hi:ts.length≤i){b0:List (List UInt8)}(hb:b0.length≤2000)(h:∀x∈b0,x.length≤28):
  yp N go (tkL ts) (ts.length:Int) (i:Int) b0=some (Lib.join b0 [32]):=by
 unfold yp;rw[decide_eq_false (by omega),cond_false,zra hb h];rfl
theorem zc7{N:Nat}{ts:List Token}(hl:ts.length≤1000)(hs:∀t∈ts,Sh t):∀(k i:Nat)(r:List Token)(b0:List (List UInt8)),ts.drop i=r→i≤ts.length→r.length<k→b0.length=i→(∀x∈b0,x.length≤28)→
  yp N (Qd N k) (tkL ts) (ts.length:Int) (i:Int) b0=some (Lib.join (b0++r.map zix) [32])
 |k,i,[],b0,hr,hi,_,hb,h=>by
  have hlen:ts.length≤i:=by have:=congrArg List.length hr;rw[List.length_drop]at this;simp at this;omega
  rw[zm8 hlen (by omega) h,List.map_nil,List.append_nil]
 |0,i,t::r,b0,hr,hi,hk,hb,h=>by simp at hk
 |k+1,i,t::r,b0,hr,hi,hk,hb,h=>by
  obtain⟨hg,hr',hlt⟩:=qZ hr;simp only[List.length_cons]at hk;have hst:=hs t (List.mem_of_getElem? hg);rw[zkk hl hg hst (by omega)];have:=zc7 (N:=N) hl hs k (i+1) r (b0++[zix t]) hr' (by omega) (by omega) (by simp[hb]) (fun x hx=>by
   rcases List.mem_append.1 hx with hx|hx
   ·exact h x hx
   ·rw[List.mem_singleton.1 hx];exact ziw hst)
  rw[List.append_assoc]at this;exact this
theorem ziz{N:Nat}{ts:List Token}(hl:ts.length≤1000)(hN:ts.length+1<N)(hs:∀t∈ts,Sh t):zc8 N (tkL ts)=some (ktx ts):=by
 obtain⟨k,rfl⟩:∃k,N=k+1:=⟨N-1,by omega⟩
 unfold zc8;rw[zq];exact (zvr _ _ _ _ _).trans (zc7 (N:=k+1) hl hs k 0 ts [] rfl (Nat.zero_le _) (by omega) rfl (fun x hx=>by cases hx))
end Go.Proofs.C06
end
section
set_option maxRecDepth 100000
namespace Go.Proofs.C06
open Go Go.RowKit Go.Vc Go.Am Go.Sp
def VI(a:List UInt8)(t:Token)(b:List UInt8):List UInt8:=((((([40,32]++a)++[32])++t.Text)++[32])++b)++[32,41]
def QI(a:List UInt8):List UInt8:=([40,32,45,32]++a)++[32,41]
def calA:Al Token calculated:=⟨fun l=>⟨false,[],0,5,ktx l,1,0⟩,fun t x=>if isO t [43]then x else⟨x.d_Neg,x.d_Digits,x.d_Scale,x.e,QI x.text,x.leaves,x.depth⟩,fun x=>⟨x.d_Neg,x.d_Digits,x.d_Scale,x.e,x.text,x.leaves,x.depth+1⟩,fun t a b=>⟨false,[],0,5,VI a.text t b.text,a.leaves+b.leaves,qj a.depth b.depth⟩⟩
theorem XK{k:Nat}{e:Ex Token}(g:G zF k e)(hs:∀t∈e.toks,Sh t):(e.fold calA).e=5∧0≤(e.fold calA).leaves∧(e.fold calA).leaves≤(e.toks.length:Int)∧0≤(e.fold calA).depth∧(e.fold calA).depth≤(e.toks.length:Int)∧(e.fold calA).text.length≤40*e.toks.length:=by
 induction g with
 | @leaf l h0 h=>
  have h1:1≤l.length:=by cases l with|nil=>exact absurd rfl h0|cons t r=>simp
  have h2:=zvq (l:=l) hs;exact⟨rfl,by show(0:Int)≤1;decide,by show(1:Int)≤(l.length:Int);omega,Int.le_refl _,by show(0:Int)≤(l.length:Int);omega,by show(ktx l).length≤40*l.length;omega⟩
 | @par o c x ho hc hx ih=>
  obtain⟨a1,a2,a3,a4,a5,a6⟩:=ih fun t ht=>hs t (by simp[Ex.toks,ht])
  have hl:(Ex.par o c x).toks.length=x.toks.length+2:=by simp[Ex.toks]
  rw[hl];refine⟨a1,a2,by show(x.fold calA).leaves≤_;omega,by show 0≤(x.fold calA).depth+1;omega,by show(x.fold calA).depth+1≤_;omega,by show(x.fold calA).text.length≤_;omega⟩
 | @sgn t x ht hx ih=>
  obtain⟨a1,a2,a3,a4,a5,a6⟩:=ih fun t ht=>hs t (by simp[Ex.toks,ht])
  have hl:(Ex.sgn t x).toks.length=x.toks.length+1:=by simp[Ex.toks]
  rw[hl];show(if isO t [43]then x.fold calA else _).e=5∧_;have e:(Ex.sgn t x).fold calA=if isO t [43]then x.fold calA else⟨(x.fold calA).d_Neg,(x.fold calA).d_Digits,(x.fold calA).d_Scale,(x.fold calA).e,QI (x.fold calA).text,(x.fold calA).leaves,(x.fold calA).depth⟩:=rfl
  rw[e];split
  ·exact⟨a1,a2,by omega,a4,by omega,by omega⟩
  ·refine⟨a1,a2,by dsimp only;omega,a4,by dsimp only;omega,?_⟩;show(QI (x.fold calA).text).length≤_;unfold QI;rw[List.length_append,List.length_append];simp only[List.length_cons,List.length_nil];omega
 | @bin k t a b hk ho ha hb iha ihb=>
  obtain⟨a1,a2,a3,a4,a5,a6⟩:=iha fun t ht=>hs t (by simp[Ex.toks,ht])
  obtain⟨b1,b2,b3,b4,b5,b6⟩:=ihb fun t ht=>hs t (by simp[Ex.toks,ht])
  have ht:t.Text.length≤8:=hs t (by simp[Ex.toks]);have hl:(Ex.bin t a b).toks.length=a.toks.length+(b.toks.length+1):=by simp[Ex.toks]
  rw[hl];refine⟨rfl,by show 0≤(a.fold calA).leaves+(b.fold calA).leaves;omega,by show(a.fold calA).leaves+(b.fold calA).leaves≤_;omega,?_,?_,?_⟩
  ·show 0≤qj (a.fold calA).depth (b.fold calA).depth;unfold qj;split<;>omega
  ·show qj (a.fold calA).depth (b.fold calA).depth≤_;unfold qj;split<;>omega
  ·show(VI (a.fold calA).text t (b.fold calA).text).length≤_;unfold VI;simp only[List.length_append,List.length_cons,List.length_nil];omega
 |up _ _ ih=>exact ih hs
theorem zjg{e:Ex Token}(g:G zF 0 e){N:Nat}(hl:e.toks.length≤1000)(hN:e.toks.length<N):
  Y2 N (tkL e.toks) ((outs zF e).map m01) [43] [45]=some (Zb (-1) 0 (zM (opk zF 0) (outs zF e) e.toks))∧
  Y2 N (tkL e.toks) ((outs zF e).map m01) [42] [47]=some (Zb (-1) 0 (zM (opk zF 1) (outs zF e) e.toks))∧
  Y2 N (tkL e.toks) ((outs zF e).map m01) [42,42] [42,42]=some (Zb (-1) 0 (zM (opk zF 2) (outs zF e) e.toks)):=by
 have ho:=qO (L:=zF) e;have h:=zqQ g;refine⟨?_,?_,?_⟩
 ·rw[Wn hl hN ho,ZX (q:=opk zF 0) _ _ fun i t h1 h2=>(WN (h i t h1 h2)).1.symm]
 ·rw[Wn hl hN ho,ZX (q:=opk zF 1) _ _ fun i t h1 h2=>(WN (h i t h1 h2)).2.1.symm]
 ·rw[Wn hl hN ho,ZX (q:=opk zF 2) _ _ fun i t h1 h2=>(WN (h i t h1 h2)).2.2.symm]
theorem zit{N:Nat}{low:yx}{e:Ex Token}(g:G zF 0 e)(hl:e.toks.length≤1000)(hN:e.toks.length<N)(hw:∀t∈e.toks,Wd t)(f:Int):
  ziu low N (tkL e.toks) f=j7 low N (tkL e.toks) f (Zb (-1) 0 (JD zF (outs zF e) e.toks)) ⟨false,[],0,0,[],0,0⟩:=by
 obtain⟨q,h1,h2⟩:=zet hl hN hw;rw[ztv g (Nat.lt_succ_self _)]at h2;have h2:q=([]++(outs zF e).map m01,true):=h2;obtain⟨s1,s2,s3⟩:=zjg (N:=N) g hl hN;unfold ziu;rw[h1,zf,h2];dsimp only[List.nil_append];rw[s1,zf];unfold JD;have nn:∀j:Nat,decide (Zb (-1) 0 (some j)<0)=false:=fun j=>decide_eq_false (by show¬((0+j:Nat):Int)<0;omega)
 have ng:decide (Zb (-1) 0 none<0)=true:=rfl;cases zM (opk zF 0) (outs zF e) e.toks with
 |some j=>rw[nn,cond_false];unfold Qc;rw[nn,cond_false]
 |none=>
  rw[ng,cond_true,s2,zf];unfold Qc;cases zM (opk zF 1) (outs zF e) e.toks with
  |some j=>rw[nn,cond_false]
  |none=>rw[ng,cond_true,s3,zf]
theorem zrZ{p s:List Token}{t:Token}:Am.subL (tkL (p++t::s)) 0 (p.length:Int)=tkL p∧Am.subL (tkL (p++t::s)) ((p.length:Int)+1) ((tkL (p++t::s)).length:Int)=tkL s:=by
 constructor
 ·rw[show(0:Int)=((0:Nat):Int)from rfl,zcm,List.take_left];rfl
 ·rw[show(p.length:Int)+1=((p.length+1:Nat):Int)from rfl,XR,←List.drop_drop,List.drop_left];rfl
theorem Qo{N:Nat}(hN:1002<N):∀(n:Nat){k:Nat}{e:Ex Token},k≤4→G zF k e→e.toks.length<n→e.toks.length≤1000→(∀t∈e.toks,Sh t)→(∀t∈e.toks,Wd t)→∀f:Int,0≤f→f+e.toks.length≤100000→Yk N n (tkL e.toks,f)=some (e.fold calA)
 |0,_,_,_,_,h,_,_,_,_,_,_=>by omega
 |n+1,k,e,hk4,hg,hn,hl,hs,hw,f,hf0,hf1=>by
  have g0:G zF 0 e:=hg.down (Nat.zero_le _) hk4;show ziu (Yk N n) N (tkL e.toks) f=_;rw[zit g0 hl (by omega) hw];rcases hg.top with⟨l,rfl,hne,hll⟩|⟨o,c,x,rfl,ho,hc,hx⟩|⟨t,x,rfl,ht,hx⟩|⟨j,t,a,b,rfl,hj,ho,ha,hb⟩
  ·have e1:JD zF (outs zF (.leaf l)) (Ex.leaf l).toks=none:=Xp;rw[e1];cases l with
   |nil=>exact absurd rfl hne
   |cons t r=>obtain⟨h1,h2,_,_⟩:=Jq hll;have h1:isO t [40]=false:=h1;have h2:(isO t [43]||isO t [45])=false:=h2;rw[Bool.or_eq_false_iff]at h2;have hg0:(t::r)[0]? =some t:=rfl;have t1:=zW hg0;have t2:=jH hg0;rw[show(((0:Nat):Int))=(0:Int)from rfl]at t1 t2;show j7 (Yk N n) N (tkL (t::r)) f (-1) _=_;unfold j7;rw[decide_eq_false (by decide),cond_false];simp only[t1,t2,tc0,tc1,tc2,tc3,tc4,tc5,qi,qI,yD,jr,zY,qW,jR,Bool.and_true,za,yF,jz,zf,h1,h2.1,h2.2,cond_false];have hkt:zc8 N (tkL (t::r))=some (ktx (t::r)):=ziz hl (by have:(t::r).length≤1000:=hl;omega) hs;rw[hkt,zf,decide_eq_false (by omega),cond_false];rfl
  ·have e1:JD zF (outs zF (.par o c x)) (Ex.par o c x).toks=none:=Xp;rw[e1];have ho:isO o [40]=true:=ho;have hlx:(Ex.par o c x).toks.length=x.toks.length+2:=by simp[Ex.toks]
   have hg0:(o::(x.toks++[c]))[0]? =some o:=rfl;have t1:=zW hg0;have t2:=jH hg0;rw[show(((0:Nat):Int))=(0:Int)from rfl]at t1 t2;have hsx:∀t∈x.toks,Sh t:=fun t ht=>hs t (by simp[Ex.toks,ht])
   have hwx:∀t∈x.toks,Wd t:=fun t ht=>hw t (by simp[Ex.toks,ht])
   obtain⟨_,_,_,d1,d2,_⟩:=XK hx hsx;have hsub:Am.subL (tkL (o::(x.toks++[c]))) 1 (((tkL (o::(x.toks++[c]))).length:Int)-1)=tkL x.toks:=by
    have e:((tkL (o::(x.toks++[c]))).length:Int)-1=((x.toks.length+1:Nat):Int):=by rw[zq];simp
    rw[e,show(1:Int)=((1:Nat):Int)from rfl,zcm];have:(o::(x.toks++[c])).take (x.toks.length+1)=o::x.toks:=by rw[List.take_succ_cons,List.take_left]
    rw[this];rfl
   have hin:zL 1 (((tkL (o::(x.toks++[c]))).length:Int)-1) (tkL (o::(x.toks++[c]))).length=true:=by
    have e:((tkL (o::(x.toks++[c]))).length:Int)-1=((x.toks.length+1:Nat):Int):=by rw[zq];simp
    rw[e];exact qX (a:=1) (by omega) (by rw[zq];simp)
   have hlen:((tkL (o::(x.toks++[c]))).length:Int)=(x.toks.length:Int)+2:=by rw[zq];simp;omega
   show j7 (Yk N n) N (tkL (o::(x.toks++[c]))) f (-1) _=_;unfold j7;rw[decide_eq_false (by decide),cond_false];simp only[t1,t2,tc0,tc1,tc2,tc3,tc4,tc5,qi,qI,yD,jr,zY,qW,jR,Bool.and_true,za,yF,jz,zf,jG ho (show([40]:List UInt8)≠[43]by decide),jG ho (show([40]:List UInt8)≠[45]by decide),ho,cond_false,cond_true,hin,hsub];rw[Qo hN n (by omega) hx (by omega) (by omega) hsx hwx f hf0 (by omega),zf,jo (by omega) (by omega),za,jo (by omega) (by omega),za];rfl
  ·have e1:JD zF (outs zF (.sgn t x)) (Ex.sgn t x).toks=none:=Xp;rw[e1];have hlx:(Ex.sgn t x).toks.length=x.toks.length+1:=by simp[Ex.toks]
   have hg0:(t::x.toks)[0]? =some t:=rfl;have t1:=zW hg0;have t2:=jH hg0;rw[show(((0:Nat):Int))=(0:Int)from rfl]at t1 t2;have hsx:∀t∈x.toks,Sh t:=fun t ht=>hs t (by simp[Ex.toks,ht])
   have hwx:∀t∈x.toks,Wd t:=fun t ht=>hw t (by simp[Ex.toks,ht])
   obtain⟨c5,_,_,_,_,c6⟩:=XK hx hsx;have hsub:Am.subL (tkL (t::x.toks)) 1 ((tkL (t::x.toks)).length:Int)=tkL x.toks:=by rw[show(1:Int)=((1:Nat):Int)from rfl,XR];rfl
   have hin:zL 1 ((tkL (t::x.toks)).length:Int) (tkL (t::x.toks)).length=true:=qX (a:=1) (by rw[zq];simp) (Nat.le_refl _);show j7 (Yk N n) N (tkL (t::x.toks)) f (-1) _=_;unfold j7;rw[decide_eq_false (by decide),cond_false];have ih:=Qo hN n (by omega) hx (by omega) (by omega) hsx hwx f hf0 (by omega);simp only[t1,t2,tc0,tc1,tc2,tc3,tc4,tc5,qi,qI,yD,jr,zY,qW,jR,Bool.and_true,za,yF,jz,zf,hin,hsub,ih];have ef:(Ex.sgn t x).fold calA=if isO t [43]then x.fold calA else⟨(x.fold calA).d_Neg,(x.fold calA).d_Digits,(x.fold calA).d_Scale,(x.fold calA).e,QI (x.fold calA).text,(x.fold calA).leaves,(x.fold calA).depth⟩:=rfl
   rw[ef];cases h43:isO t [43]with
   |true=>rw[cond_true,if_pos rfl]
   |false=>have ht:(isO t [43]||isO t [45])=true:=ht;rw[h43,Bool.false_or]at ht;rw[cond_false,ht,cond_true,if_neg (by simp),je (by simp) (by omega),za,je (by rw[List.length_append];simp only[List.length_cons,List.length_nil];omega) (by simp),za,c5,decide_eq_false (by decide),cond_false,←c5];rfl
  ·rw[zmB hj ho ha hb];have hlx:(Ex.bin t a b).toks.length=a.toks.length+(b.toks.length+1):=by simp[Ex.toks]
   have hsa:∀t∈a.toks,Sh t:=fun t ht=>hs t (by simp[Ex.toks,ht])
   have hwa:∀t∈a.toks,Wd t:=fun t ht=>hw t (by simp[Ex.toks,ht])
   have hsb:∀t∈b.toks,Sh t:=fun t ht=>hs t (by simp[Ex.toks,ht])
   have hwb:∀t∈b.toks,Wd t:=fun t ht=>hw t (by simp[Ex.toks,ht])
   have hst:t.Text.length≤8:=hs t (by simp[Ex.toks]);obtain⟨a1,a2,a3,a4,a5,a6⟩:=XK ha hsa;obtain⟨b1,b2,b3,b4,b5,b6⟩:=XK hb hsb;have hg0:(a.toks++t::b.toks)[a.toks.length]? =some t:=by rw[List.getElem?_append_right (Nat.le_refl _),Nat.sub_self];rfl
   obtain⟨s1,s2⟩:=zrZ (p:=a.toks) (s:=b.toks) (t:=t);have hlen:(tkL (a.toks++t::b.toks)).length=a.toks.length+(b.toks.length+1):=by rw[zq];simp
   have i1:zL 0 (a.toks.length:Int) (tkL (a.toks++t::b.toks)).length=true:=qX (a:=0) (Nat.zero_le _) (by rw[hlen];omega);have i2:zL ((a.toks.length:Int)+1) ((tkL (a.toks++t::b.toks)).length:Int) (tkL (a.toks++t::b.toks)).length=true:=qX (a:=a.toks.length+1) (by rw[hlen];omega) (Nat.le_refl _);have iha:=Qo hN n (by omega) ha (by omega) (by omega) hsa hwa f hf0 (by omega);have ihb:=fun f' h1 h2=>Qo hN n (by omega) hb (by omega) (by omega) hsb hwb f' h1 h2
   show j7 (Yk N n) N (tkL (a.toks++t::b.toks)) f ((0+a.toks.length:Nat):Int) _=_;rw[Nat.zero_add];unfold j7;rw[decide_eq_true (by omega),cond_true,i1,za,s1,iha,zf,jo (by omega) (by omega),za,i2,za,jo (by omega) (by omega),za,s2,ihb _ (by omega) (by omega),zf];simp only[zW hg0,jH hg0,tc0,tc1,tc2,tc3,tc4,tc5,qI,jr,zY,qW,jR,Bool.and_true,za];rw[je (by simp) (by omega),za,je (by simp only[List.length_append,List.length_cons,List.length_nil];omega) (by simp),za,je (by simp only[List.length_append,List.length_cons,List.length_nil];omega) (by omega),za,
    je (by simp only[List.length_append,List.length_cons,List.length_nil];omega) (by simp),za,je (by simp only[List.length_append,List.length_cons,List.length_nil];omega) (by omega),za,je (by simp only[List.length_append,List.length_cons,List.length_nil];omega) (by simp),za,
    jo (by omega) (by omega),za,a1,decide_eq_false (by decide),cond_false]
   unfold Vu;dsimp only;rw[decide_eq_false (by decide),Bool.not_false,cond_true];rfl
end Go.Proofs.C06
end
section
set_option maxRecDepth 100000
namespace Go.Proofs.C06
open Go Go.RowKit Go.Vc Go.Am Go.Sp
theorem zv3:∀ts:List Token,(Xg (tkL ts)).all zJ=true
 |[]=>rfl
 |_::ts=>zv3 ts
theorem zhD{α:Type}(l:List α):Am.subL l 0 (l.length:Int)=l:=by unfold Am.subL;rw[Int.toNat_natCast,List.take_length];rfl
theorem znp{N:Nat}{ts:List Token}(h1:1≤ts.length)(h2:ts.length≤100000):zhj N (tkL ts)=some (tkL ts):=by
 unfold zhj;rw[show Nat.ble 1 (tkL ts).length=true from Nat.ble_eq_true_of_le (by rw[zq];exact h1),za,zv3,Bool.true_and,List.nil_append];have:growOk 48 (tkL ts).length=true:=by unfold growOk;rw[zq];simp only[Bool.and_eq_true,Nat.ble_eq];omega
 rw[this,za]
theorem zrJ{N:Nat}{s:List AV}:zmn N s=some s:=by unfold zmn;rw[zS.2 ⟨by omega,by omega,by omega⟩,decide_eq_true rfl,zhD];rfl
theorem zgZ{n:Nat}(h:n≤100000):growOk 24 n=true:=by unfold growOk;simp only[Bool.and_eq_true,Nat.ble_eq];omega
def tkOc(t:Token):Nat:=if t.Text=[43]then 2 else if t.Text=[45]then 3 else if t.Text=[42]then 4 else if t.Text=[47]then 5 else 6
def tkO:Oc Token:=⟨fun t=>isO t [45],tkOc⟩
def ndV(d:Nd):AV:=.agg [.int .u8 (d.op:Int),.int .i64 (d.l:Int),.int .i64 (d.r:Int)]
def lfV(l:List Token):AV:=.rov true 5 (tkL l)
abbrev RTy:=Int×Int×List AV×Int×Int×List AV×List AV
abbrev RFn:=List AV→Int→Int→List AV→List AV→Option RTy
def zvN(ts:List Token)(p d:Nat)(ns:List Nd)(ls:List (List Token))(o:R Token)(q:RTy):Prop:=match o with
 |.ok ex r=>∃p':Nat,ts.drop p'=r∧p'≤ts.length∧cnt tkO ex+p≤p'∧ex.lvs.length+p≤p'∧
  q=(((ns.length+cnt tkO ex-1:Nat):Int),0,tkL ts,(p':Int),(d:Int),(ns++nds tkO ex ns.length ls.length).map ndV,(ls++ex.lvs).map lfV)
 |.err _=>q.2.1≠0∧q.2.2.2.2.1=(d:Int)
def ZP(ts:List Token)(F:RFn)(f:List Token→R Token)(d:Nat):Prop:=∀(p:Nat)(ns:List Nd)(ls:List (List Token)),p≤ts.length→ns.length≤p→ls.length≤p→∃q,F (tkL ts) (p:Int) (d:Int) (ns.map ndV) (ls.map lfV)=some q∧zvN ts p d ns ls (f (ts.drop p)) q
theorem qc{ts:List Token}{p d:Nat}{ns:List Nd}{ls:List (List Token)}{l:Bool}{q:RTy}(h1:q.2.1≠0)(h2:q.2.2.2.2.1=(d:Int)):zvN ts p d ns ls (.err l) q:=⟨h1,h2⟩
theorem zk0(ns:List Nd)(x:AV)(d:Nd)(h:x=ndV d):ns.map ndV++[x]=(ns++[d]).map ndV:=by rw[List.map_append,h];rfl
theorem zxm(ls:List (List Token))(l:List Token):ls.map lfV++[.rov true 5 (tkL l)]=(ls++[l]).map lfV:=by rw[List.map_append];rfl
theorem zvo{α β:Type}(f:α→β)(l:List α)(x:α):(((l++[x]).map f).length:Int)-1=(l.length:Int):=by rw[List.length_map,List.length_append,List.length_singleton];omega
section
variable {ts : List Token} (hl : ts.length ≤ 1000) {N : Nat} (hN : 1003 < N) (hw : ∀ t ∈ ts, Wd t)
include hl hN hw
theorem zh4{d:Nat}(hd:d≤32){low:zo}{sum:Option (List Token→R Token)}(hs:(d=32∧sum=none)∨(d<32∧∃f,sum=some f∧ZP ts (fun l a b n v=>low ((l,(a,b)),(n,v))) f (d+1))):
  ZP ts (JJ low N) (qv zF sum) d:=by
 intro p ns ls hp h1 h2;have hsub:zL (p:Int) ((tkL ts).length:Int) (tkL ts).length=true:=qX (by rw[zq];exact hp) (Nat.le_refl _);have hwd:∀t∈ts.drop p,Wd t:=fun t ht=>hw t (List.mem_of_mem_drop ht)
 have hld:(ts.drop p).length≤1000:=by rw[List.length_drop];omega
 have hop:=(YA (N:=N) (by omega) hld (by omega) hwd).1;unfold JJ zfq;rw[YB (by simp) (by simp;omega),zf];cases hr:ts.drop p with
 |nil=>
  have hlen:ts.length≤p:=by have:=congrArg List.length hr;rw[List.length_drop]at this;simp at this;omega
  rw[hr]at hop;rw[Vw hlen,Bool.not_false,cond_true,hsub,za,XR,hr,hop,zf];exact⟨_,rfl,qc (by show(4:Int)≠0;decide) rfl⟩
 |cons t r=>
  obtain⟨hg,hr',hlt⟩:=qZ hr;have hlen:r.length+(p+1)=ts.length:=by have:=congrArg List.length hr;rw[List.length_drop,List.length_cons]at this;omega
  rw[hr]at hop;rw[zc9 hg,zma];cases hlp:isO t [40]with
  |false=>
   have hlp':zF.lp t=false:=hlp;rw[Bool.not_false,cond_true,hsub,za,XR,hr,hop,zf];have hle:=znF (t::r);rw[List.length_cons]at hle;unfold qv;dsimp only;rw[hlp'];dsimp only;have e0:zF.opl (t::r)=oplT (t::r):=rfl;rw[e0];have eo:(opd (t::r)).1=oplT (t::r):=rfl;rcases opd_ok (ts:=t::r)with⟨k1,k2,_⟩|⟨k1,k2⟩
   ·rw[k1,decide_eq_true (show(0:Int)=0 from rfl),Bool.not_true,cond_false];rw[eo]at k2⊢;generalize oplT (t::r)=n at hle k2⊢;cases n with
    |zero=>omega
    |succ n=>
     dsimp only;have et:(ts.take (p+(n+1))).drop p=(t::r).take (n+1):=by rw[List.drop_take,hr];exact congrArg (fun z=>List.take z _) (by omega)
     have tl:((t::r).take (n+1)).length=n+1:=by rw[List.length_take,List.length_cons];omega
     rw[show(p:Int)+((n+1:Nat):Int)=((p+(n+1):Nat):Int)by omega,jo (by omega) (by omega),za,qX (by omega) (by rw[zq];omega),za,zcm,et,znp (by omega) (by omega),zf,zrJ,zf,zxm,zvo];rw[zgZ (by rw[List.length_map,List.length_append];simp;omega),za,jo (by omega) (by omega),za,zk0 ns (.agg [.int .u8 1,.int .i64 (ls.length:Int),.int .i64 0]) ⟨1,ls.length,0⟩ rfl,zvo,zgZ (by rw[List.length_map,List.length_append];simp;omega),za,jo (by omega) (by omega),za];refine⟨_,rfl,p+(n+1),by rw[←List.drop_drop,hr],by omega,by show 1+p≤_;omega,by show 1+p≤_;omega,?_⟩;show(_,_,_,_,_,_,_)=(_,_,_,_,_,_,_)
     congr 1
   ·rw[k1,decide_eq_false (by decide),Bool.not_false,cond_true];rw[eo]at k2;rw[k2];exact⟨_,rfl,qc (by show(4:Int)≠0;decide) rfl⟩
  |true=>
   have hlp':zF.lp t=true:=hlp;rw[Bool.not_true,cond_false];unfold qv;dsimp only;rw[hlp'];dsimp only;rcases hs with⟨rfl,rfl⟩|⟨hd2,f,rfl,hf⟩
   ·rw[decide_eq_true (show((32:Nat):Int)=32 from rfl),cond_true];exact⟨_,rfl,qc (by show(3:Int)≠0;decide) rfl⟩
   ·rw[decide_eq_false (show¬(d:Int)=32 by omega),cond_false,jo (by omega) (by omega),za,jo (by omega) (by omega),za];obtain⟨q,e1,e2⟩:=hf (p+1) ns ls (by omega) (by omega) (by omega);rw[hr']at e2;have e1:low ((tkL ts,((p:Int)+1,(d:Int)+1)),(ns.map ndV,ls.map lfV))=some q:=e1;rw[e1,zf];dsimp only;cases hfr:f r with
    |err l=>rw[hfr]at e2;obtain⟨g1,g2⟩:=e2;dsimp only;rw[g2,jo (by omega) (by omega),za,decide_eq_false g1,Bool.not_false,cond_true];exact⟨_,rfl,qc g1 (by show((d+1:Nat):Int)-1=(d:Int);omega)⟩
    |ok ex r2=>
     rw[hfr]at e2;obtain⟨p',g1,g2,g3,g4,rfl⟩:=e2;dsimp only;rw[jo (by omega) (by omega),za,decide_eq_true (show(0:Int)=0 from rfl),Bool.not_true,cond_false,YB (by simp) (by simp;omega),zf];cases r2 with
     |nil=>
      have hlen2:ts.length≤p':=by have:=congrArg List.length g1;rw[List.length_drop]at this;simp at this;omega
      rw[Vw hlen2,Bool.not_false,cond_true];exact⟨_,rfl,qc (by show(4:Int)≠0;decide) (by show((d+1:Nat):Int)-1=(d:Int);omega)⟩
     |cons c r3=>
      obtain⟨gg,gr,glt⟩:=qZ g1;rw[zc9 gg,zma];dsimp only;have ec:zF.rp c=isO c [41]:=rfl;rw[ec];cases isO c [41]with
      |false=>rw[Bool.not_false,cond_true];exact⟨_,rfl,qc (by show(4:Int)≠0;decide) (by show((d+1:Nat):Int)-1=(d:Int);omega)⟩
      |true=>
       rw[Bool.not_true,cond_false,jo (by omega) (by omega),za];refine⟨_,rfl,p'+1,gr,by omega,by show cnt tkO ex+p≤_;omega,by show ex.lvs.length+p≤_;omega,?_⟩;have:((d+1:Nat):Int)-1=(d:Int):=by omega
       dsimp only[Sum.elim_inr,id];rw[this];rfl
theorem ze9{d:Nat}{low:zo}{sum:Option (List Token→R Token)}(hp:ZP ts (JJ low N) (qv zF sum) d):ZP ts (JI low N) (XT zF sum) d:=by
 have _:=hw;intro p ns ls hp0 h1 h2;unfold JI;rw[YB (by simp) (by simp;omega),zf];cases hr:ts.drop p with
 |nil=>
  have hlen:ts.length≤p:=by have:=congrArg List.length hr;rw[List.length_drop]at this;simp at this;omega
  obtain⟨q,e1,e2⟩:=hp p ns ls hp0 h1 h2;rw[hr]at e2;rw[Vw hlen,cond_false,e1,zf];exact⟨_,rfl,e2⟩
 |cons t r=>
  obtain⟨hg,hr',hlt⟩:=qZ hr;have hlen:r.length+(p+1)=ts.length:=by have:=congrArg List.length hr;rw[List.length_drop,List.length_cons]at this;omega
  have eT:isT ts p 5 [[43],[45]]=tPm t:=by
   unfold isT tPm isO;rw[hg];by_cases hk:t.Kind=5
   ·simp[hk]
   ·simp[hk]
  rw[eT];unfold XT;dsimp only;have epm:zF.pm t=tPm t:=rfl;rw[epm];cases hpm:tPm t with
  |false=>obtain⟨q,e1,e2⟩:=hp p ns ls hp0 h1 h2;rw[hr]at e2;rw[cond_false,e1,zf];exact⟨_,rfl,e2⟩
  |true=>
   obtain⟨q,e1,e2⟩:=hp (p+1) ns ls (by omega) (by omega) (by omega);rw[hr']at e2;rw[cond_true];simp only[zW hg,jH hg,tc0,tc1,tc2,tc3,tc4,tc5,qI,jr,zY,qW,jR,Bool.and_true,za];rw[jo (by omega) (by omega),za];have e1:JJ low N (tkL ts) ((p:Int)+1) (d:Int) (ns.map ndV) (ls.map lfV)=some q:=e1;rw[e1,zf];cases hpr:qv zF sum r with
   |err l=>rw[hpr]at e2;obtain⟨g1,g2⟩:=e2;dsimp only;rw[decide_eq_false g1,cond_false];exact⟨_,rfl,qc g1 g2⟩
   |ok ex r2=>
    rw[hpr]at e2;obtain⟨p',g1,g2,g3,g4,rfl⟩:=e2;dsimp only;rw[decide_eq_true (show(0:Int)=0 from rfl),cond_true];have hk5:t.Kind=5:=Qv (by rw[hpm];simp);have e45:decide (t.Text=[45])=isO t [45]:=by unfold isO;rw[decide_eq_true hk5,Bool.true_and]
    have eb:(t.Text=[45])↔isO t [45]=true:=by rw[←e45];exact (decide_eq_true_iff).symm
    have cp:=jC tkO ex;have nl:=jK tkO ex ns.length ls.length;cases hm:isO t [45]with
    |false=>
     have em:tkO.mn t=false:=hm;have c1:cnt tkO (.sgn t ex)=cnt tkO ex:=by show(match tkO.mn t with|true=>_|false=>_)=_;rw[em]
     have c2:nds tkO (.sgn t ex) ns.length ls.length=nds tkO ex ns.length ls.length:=by show(match tkO.mn t with|true=>_|false=>_)=_;rw[em]
     rw[e45,hm,cond_false];refine⟨_,rfl,p',g1,g2,by rw[c1];omega,by show ex.lvs.length+p≤p';omega,?_⟩;rw[c1,c2];rfl
    |true=>
     have em:tkO.mn t=true:=hm;have c1:cnt tkO (.sgn t ex)=cnt tkO ex+1:=by show(match tkO.mn t with|true=>_|false=>_)=_;rw[em]
     have c2:nds tkO (.sgn t ex) ns.length ls.length=nds tkO ex ns.length ls.length++[⟨7,ns.length+cnt tkO ex-1,0⟩]:=by show(match tkO.mn t with|true=>_|false=>_)=_;rw[em]
     have ll:(ns++nds tkO ex ns.length ls.length).length=ns.length+cnt tkO ex:=by rw[List.length_append,nl]
     rw[e45,hm,cond_true,zk0 _ (.agg [.int .u8 7,.int .i64 ((ns.length+cnt tkO ex-1:Nat):Int),.int .i64 0]) ⟨7,ns.length+cnt tkO ex-1,0⟩ rfl,zvo,ll,zgZ (by rw[List.length_map,List.length_append,ll];simp;omega),za,jo (by omega) (by omega),za];refine⟨_,rfl,p',g1,g2,by rw[c1];omega,by show ex.lvs.length+p≤p';omega,?_⟩;rw[c1,c2,←List.append_assoc];rfl
end
structure Loops(ts:List Token)(W:Nat→Int→Int→List AV→Int→Int→List AV→List AV→Option RTy)(F:RFn)(op:Token→Bool):Prop where
 err:∀k i e l a b n v,e≠0→W (k+1) i e l a b n v=some (i,e,l,a,b,n,v)
 stop:∀(k:Nat)(i:Int)(p:Nat)(b:Int)(n v:List AV),(∀t,ts[p]? =some t→op t=false)→W (k+1) i 0 (tkL ts) (p:Int) b n v=some (i,0,tkL ts,(p:Int),b,n,v)
 go:∀(k:Nat)(i:Int)(p:Nat)(b:Int)(n v:List AV)(t:Token),ts[p]? =some t→op t=true→W (k+1) i 0 (tkL ts) (p:Int) b n v=(bnd (F (tkL ts) ((p+1:Nat):Int) b n v) fun q=>cond (!decide (q.2.1=0)) (some (0,q.2.1,q.2.2.1,q.2.2.2.1,q.2.2.2.2.1,q.2.2.2.2.2.1,q.2.2.2.2.2.2))
  (chk (growOk 24 (q.2.2.2.2.2.1++([.agg [.int .u8 (tkOc t:Int),.int .i64 i,.int .i64 q.1]]:List AV)).length) (chk (inKb .i64 ((((q.2.2.2.2.2.1++([.agg [.int .u8 (tkOc t:Int),.int .i64 i,.int .i64 q.1]]:List AV))).length:Int)-1))
   (W k ((((q.2.2.2.2.2.1++([.agg [.int .u8 (tkOc t:Int),.int .i64 i,.int .i64 q.1]]:List AV))).length:Int)-1) 0 q.2.2.1 q.2.2.2.1 q.2.2.2.2.1 (q.2.2.2.2.2.1++([.agg [.int .u8 (tkOc t:Int),.int .i64 i,.int .i64 q.1]]:List AV)) q.2.2.2.2.2.2))))
theorem zcV{ts:List Token}(hl:ts.length≤1000){W:Nat→Int→Int→List AV→Int→Int→List AV→List AV→Option RTy}{F:RFn}{op:Token→Bool}(hW:Loops ts W F op){f:List Token→R Token}{d:Nat}(hF:ZP ts F f d)
  {p0:Nat} {ns:List Nd} {ls:List (List Token)} (h1:ns.length≤p0) (h2:ls.length≤p0):∀(n k:Nat)(p:Nat)(left:Ex Token)(r:List Token),ts.drop p=r→p≤ts.length→cnt tkO left+p0≤p→left.lvs.length+p0≤p→r.length<n→r.length<k→
  ∃q,W k (((ns.length+cnt tkO left-1:Nat):Int)) 0 (tkL ts) (p:Int) (d:Int) ((ns++nds tkO left ns.length ls.length).map ndV) ((ls++left.lvs).map lfV)=some q∧zvN ts p0 d ns ls (ZK op f n left r) q
 |0,_,_,_,_,_,_,_,_,h,_=>by omega
 |_,0,_,_,_,_,_,_,_,_,h=>by omega
 |n+1,k+1,p,left,[],hr,hp,c1,c2,_,_=>by
  have hlen:ts.length≤p:=by have:=congrArg List.length hr;rw[List.length_drop]at this;simp at this;omega
  rw[hW.stop k _ p _ _ _ fun t ht=>by rw[List.getElem?_eq_none_iff.2 hlen]at ht;cases ht];exact⟨_,rfl,p,hr,hp,c1,c2,rfl⟩
 |n+1,k+1,p,left,t::r,hr,hp,c1,c2,hn,hk=>by
  obtain⟨hg,hr',hlt⟩:=qZ hr;simp only[List.length_cons]at hn hk;have nl:=jK tkO left ns.length ls.length;have cp:=jC tkO left;unfold ZK;dsimp only;cases ho:op t with
  |false=>rw[hW.stop k _ p _ _ _ fun u hu=>by rw[hg]at hu;cases hu;exact ho];exact⟨_,rfl,p,hr,hp,c1,c2,rfl⟩
  |true=>
   rw[hW.go k _ p _ _ _ t hg ho];have l1:(ns++nds tkO left ns.length ls.length).length=ns.length+cnt tkO left:=by rw[List.length_append,nl]
   have l2:(ls++left.lvs).length=ls.length+left.lvs.length:=List.length_append;obtain⟨q,e1,e2⟩:=hF (p+1) (ns++nds tkO left ns.length ls.length) (ls++left.lvs) (by omega) (by omega) (by omega);rw[hr']at e2;rw[e1,zf];dsimp only;cases hfr:f r with
   |err l=>rw[hfr]at e2;obtain⟨g1,g2⟩:=e2;rw[decide_eq_false g1,Bool.not_false,cond_true];exact⟨_,rfl,qc g1 g2⟩
   |ok ex r2=>
    rw[hfr]at e2;obtain⟨p',g1,g2,g3,g4,rfl⟩:=e2;have cp2:=jC tkO ex;have nl2:=jK tkO ex (ns.length+cnt tkO left) (ls.length+left.lvs.length);dsimp only;rw[l1,l2,decide_eq_true (show(0:Int)=0 from rfl),Bool.not_true,cond_false,zk0 _ (.agg [.int .u8 (tkOc t:Int),.int .i64 ((ns.length+cnt tkO left-1:Nat):Int),.int .i64 ((ns.length+cnt tkO left+cnt tkO ex-1:Nat):Int)]) ⟨tkOc t,ns.length+cnt tkO left-1,ns.length+cnt tkO left+cnt tkO ex-1⟩ rfl,zvo];have l3:((ns++nds tkO left ns.length ls.length)++nds tkO ex (ns.length+cnt tkO left) (ls.length+left.lvs.length)).length=ns.length+cnt tkO left+cnt tkO ex:=by rw[List.length_append,l1,nl2]
    rw[l3,zgZ (by rw[List.length_map,List.length_append,l3];simp;omega),za,jo (by omega) (by omega),za];have hlen:r2.length=ts.length-p':=by rw[←g1,List.length_drop]
    have hlr:r.length+(p+1)=ts.length:=by have:=congrArg List.length hr;rw[List.length_drop,List.length_cons]at this;omega
    have b1:cnt tkO (.bin t left ex)=cnt tkO left+cnt tkO ex+1:=rfl;have b2:(Ex.bin t left ex).lvs=left.lvs++ex.lvs:=rfl;have b3:nds tkO (.bin t left ex) ns.length ls.length=nds tkO left ns.length ls.length++(nds tkO ex (ns.length+cnt tkO left) (ls.length+left.lvs.length)++[⟨tkOc t,ns.length+cnt tkO left-1,ns.length+cnt tkO left+cnt tkO ex-1⟩]):=rfl;obtain⟨q2,w1,w2⟩:=zcV hl hW hF h1 h2 n k p' (.bin t left ex) r2 g1 g2 (by rw[b1];omega) (by rw[b2,List.length_append];omega) (by omega) (by omega);refine⟨q2,?_,w2⟩;rw[←w1,b1,b2,b3,←List.append_assoc,←List.append_assoc,←List.append_assoc,show ns.length+(cnt tkO left+cnt tkO ex+1)-1=ns.length+cnt tkO left+cnt tkO ex by omega]
end Go.Proofs.C06
end
section
set_option maxRecDepth 100000
namespace Go.Proofs.C06
open Go Go.RowKit Go.Vc Go.Am Go.Sp
theorem YY{ts:List Token}{p:Nat}(h:¬p<ts.length):decide ((p:Int)<((tkL ts).length:Int))=false:=decide_eq_false (by rw[zq];omega)
theorem Jp{ts:List Token}{p:Nat}(h:p<ts.length):decide ((p:Int)<((tkL ts).length:Int))=true:=decide_eq_true (by rw[zq];omega)
section
variable {ts : List Token} (hl : ts.length ≤ 1000) (low : zo) (N : Nat)
include hl
theorem zwW:Loops ts (fun k i e l a b n v=>yl low N k i e l a b n v) (JI low N) (opk zF 2):=by
 refine⟨fun k i e l a b n v h=>?_,fun k i p b n v h=>?_,fun k i p b n v t hg ho=>?_⟩
 ·show jW low N (yl low N k) i e l a b n v=_;unfold jW;rw[decide_eq_false h,cond_false]
 ·show jW low N (yl low N k) i 0 (tkL ts) (p:Int) b n v=_;unfold jW;rw[decide_eq_true (show(0:Int)=0 from rfl),cond_true];by_cases hlt:p<ts.length
  ·have hg:ts[p]? =some ts[p]:=List.getElem?_eq_getElem hlt;have ho:(decide (ts[p].Kind=5)&&decide (ts[p].Text=[42,42]))=false:=h _ hg;rw[Jp hlt,cond_true];simp only[zW hg,jH hg,tc0,tc1,tc2,tc3,tc4,tc5,qi,qI,yD,jr,zY,qW,jR,Bool.and_true,za];cases h5:decide (ts[p].Kind=5)with
   |false=>rw[cond_false]
   |true=>rw[h5,Bool.true_and]at ho;rw[cond_true,ho,cond_false]
  ·rw[YY hlt,cond_false]
 ·have hlt:=(List.getElem?_eq_some_iff.1 hg).1;obtain⟨o1,o2⟩:=qk (show isO t [42,42]=true from ho);have oc:tkOc t=6:=by unfold tkOc;rw[o2];rfl
  show jW low N (yl low N k) i 0 (tkL ts) (p:Int) b n v=_;unfold jW;rw[decide_eq_true (show(0:Int)=0 from rfl),cond_true,Jp hlt,cond_true];simp only[zW hg,jH hg,tc0,tc1,tc2,tc3,tc4,tc5,qi,qI,yD,jr,zY,qW,jR,Bool.and_true,za];rw[decide_eq_true o1,cond_true,decide_eq_true o2,cond_true];unfold JK;rw[show(p:Int)+1=((p+1:Nat):Int)from rfl,jo (by omega) (by omega),za,oc];rfl
theorem zwY:Loops ts (fun k i e l a b n v=>j2 low N k i e l a b n v) (zcC low N) (opk zF 1):=by
 refine⟨fun k i e l a b n v h=>?_,fun k i p b n v h=>?_,fun k i p b n v t hg ho=>?_⟩
 ·show jZ low N (j2 low N k) i e l a b n v=_;unfold jZ;rw[decide_eq_false h,cond_false]
 ·show jZ low N (j2 low N k) i 0 (tkL ts) (p:Int) b n v=_;unfold jZ;rw[decide_eq_true (show(0:Int)=0 from rfl),cond_true];by_cases hlt:p<ts.length
  ·have hg:ts[p]? =some ts[p]:=List.getElem?_eq_getElem hlt;have ho:((decide (ts[p].Kind=5)&&decide (ts[p].Text=[42]))||(decide (ts[p].Kind=5)&&decide (ts[p].Text=[47])))=false:=h _ hg;rw[Jp hlt,cond_true];simp only[zW hg,jH hg,tc0,tc1,tc2,tc3,tc4,tc5,qi,qI,yD,jr,zY,qW,jR,Bool.and_true,za];cases h5:decide (ts[p].Kind=5)with
   |false=>rw[cond_false]
   |true=>rw[h5,Bool.true_and,Bool.true_and,Bool.or_eq_false_iff]at ho;rw[cond_true,ho.1,cond_false,ho.2,cond_false]
  ·rw[YY hlt,cond_false]
 ·have hlt:=(List.getElem?_eq_some_iff.1 hg).1;have ho:(isO t [42]||isO t [47])=true:=ho;show jZ low N (j2 low N k) i 0 (tkL ts) (p:Int) b n v=_;unfold jZ;rw[decide_eq_true (show(0:Int)=0 from rfl),cond_true,Jp hlt,cond_true];unfold JM;simp only[zW hg,jH hg,tc0,tc1,tc2,tc3,tc4,tc5,qi,qI,yD,jr,zY,qW,jR,Bool.and_true,za];refine jy ho (fun ho=>?_) fun ho=>?_
  ·obtain⟨o1,o2⟩:=qk ho;have oc:tkOc t=4:=by unfold tkOc;rw[o2];rfl
   rw[decide_eq_true o1,cond_true,decide_eq_true o2,cond_true,cond_true];unfold qq;rw[show(p:Int)+1=((p+1:Nat):Int)from rfl,jo (by omega) (by omega),za,oc];rfl
  ·obtain⟨o1,o2⟩:=qk ho;have oc:tkOc t=5:=by unfold tkOc;rw[o2];rfl
   have no:decide (t.Text=[42])=false:=by rw[o2];rfl
   rw[decide_eq_true o1,cond_true,no,cond_false,decide_eq_true o2,cond_true,cond_false,cond_true];unfold qq;rw[show(p:Int)+1=((p+1:Nat):Int)from rfl,jo (by omega) (by omega),za,oc];rfl
theorem zwX:Loops ts (fun k i e l a b n v=>jY low N k i e l a b n v) (YJ low N) (opk zF 0):=by
 refine⟨fun k i e l a b n v h=>?_,fun k i p b n v h=>?_,fun k i p b n v t hg ho=>?_⟩
 ·show jX low N (jY low N k) i e l a b n v=_;unfold jX;rw[decide_eq_false h,cond_false]
 ·show jX low N (jY low N k) i 0 (tkL ts) (p:Int) b n v=_;unfold jX;rw[decide_eq_true (show(0:Int)=0 from rfl),cond_true];by_cases hlt:p<ts.length
  ·have hg:ts[p]? =some ts[p]:=List.getElem?_eq_getElem hlt;have ho:((decide (ts[p].Kind=5)&&decide (ts[p].Text=[43]))||(decide (ts[p].Kind=5)&&decide (ts[p].Text=[45])))=false:=h _ hg;rw[Jp hlt,cond_true];simp only[zW hg,jH hg,tc0,tc1,tc2,tc3,tc4,tc5,qi,qI,yD,jr,zY,qW,jR,Bool.and_true,za];cases h5:decide (ts[p].Kind=5)with
   |false=>rw[cond_false]
   |true=>rw[h5,Bool.true_and,Bool.true_and,Bool.or_eq_false_iff]at ho;rw[cond_true,ho.1,cond_false,ho.2,cond_false]
  ·rw[YY hlt,cond_false]
 ·have hlt:=(List.getElem?_eq_some_iff.1 hg).1;have ho:(isO t [43]||isO t [45])=true:=ho;show jX low N (jY low N k) i 0 (tkL ts) (p:Int) b n v=_;unfold jX;rw[decide_eq_true (show(0:Int)=0 from rfl),cond_true,Jp hlt,cond_true];unfold JL;simp only[zW hg,jH hg,tc0,tc1,tc2,tc3,tc4,tc5,qi,qI,yD,jr,zY,qW,jR,Bool.and_true,za];refine jy ho (fun ho=>?_) fun ho=>?_
  ·obtain⟨o1,o2⟩:=qk ho;have oc:tkOc t=2:=by unfold tkOc;rw[o2];rfl
   rw[decide_eq_true o1,cond_true,decide_eq_true o2,cond_true,cond_true];unfold qp;rw[show(p:Int)+1=((p+1:Nat):Int)from rfl,jo (by omega) (by omega),za,oc];rfl
  ·obtain⟨o1,o2⟩:=qk ho;have oc:tkOc t=3:=by unfold tkOc;rw[o2];rfl
   have no:decide (t.Text=[43])=false:=by rw[o2];rfl
   rw[decide_eq_true o1,cond_true,no,cond_false,decide_eq_true o2,cond_true,cond_false,cond_true];unfold qp;rw[show(p:Int)+1=((p+1:Nat):Int)from rfl,jo (by omega) (by omega),za,oc];rfl
end
theorem Ql{ts:List Token}(hl:ts.length≤1000){N:Nat}(hN:1003<N){W:Nat→Int→Int→List AV→Int→Int→List AV→List AV→Option RTy}{F C:RFn}{op:Token→Bool}(hW:Loops ts W F op){f:List Token→R Token}{d:Nat}(hF:ZP ts F f d)
  (hC:∀l a b n v,C l a b n v=bnd (F l a b n v) fun rr=>W N rr.1 rr.2.1 rr.2.2.1 rr.2.2.2.1 rr.2.2.2.2.1 rr.2.2.2.2.2.1 rr.2.2.2.2.2.2):ZP ts C (Qm op f) d:=by
 intro p ns ls hp h1 h2;obtain⟨q,e1,e2⟩:=hF p ns ls hp h1 h2;rw[hC,e1,zf];unfold Qm;obtain⟨N,rfl⟩:∃m,N=m+1:=⟨N-1,by omega⟩
 cases hfr:f (ts.drop p)with
 |err l=>rw[hfr]at e2;obtain⟨g1,g2⟩:=e2;rw[hW.err N _ _ _ _ _ _ _ g1];exact⟨_,rfl,qc g1 g2⟩
 |ok ex r=>
  rw[hfr]at e2;obtain⟨p',g1,g2,g3,g4,rfl⟩:=e2;have hlen:r.length=ts.length-p':=by rw[←g1,List.length_drop]
  exact zcV hl hW hF h1 h2 (r.length+1) (N+1) p' ex r g1 g2 g3 g4 (Nat.lt_succ_self _) (by omega)
theorem Xt{ts:List Token}{F G:RFn}{f:List Token→R Token}{d:Nat}(hF:ZP ts F f d)(hG:∀l a b n v,G l a b n v=bnd (F l a b n v) fun rr=>some (rr.1,rr.2.1,rr.2.2.1,rr.2.2.2.1,rr.2.2.2.2.1,rr.2.2.2.2.2.1,rr.2.2.2.2.2.2)):ZP ts G f d:=by intro p ns ls hp h1 h2;obtain⟨q,e1,e2⟩:=hF p ns ls hp h1 h2;rw[hG,e1,zf];exact⟨q,rfl,e2⟩
theorem zmz{ts:List Token}(hl:ts.length≤1000){N:Nat}(hN:1003<N)(hw:∀t∈ts,Wd t){d:Nat}(hd:d≤32){low:zo}{sum:Option (List Token→R Token)}
  (hs:(d=32∧sum=none)∨(d<32∧∃f,sum=some f∧ZP ts (fun l a b n v=>low ((l,(a,b)),(n,v))) f (d+1))):ZP ts (zwP low N) (ZB zF sum 3) d:=by
 have r0:ZP ts (JI low N) (ZB zF sum 0) d:=ze9 hl hN hw (zh4 hl hN hw hd hs);have r1:ZP ts (zcC low N) (ZB zF sum 1) d:=Xt (Ql hl hN (zwW hl low N) r0 (C:=zfr low N) fun _ _ _ _ _=>rfl) fun _ _ _ _ _=>rfl
 have r2:ZP ts (YJ low N) (ZB zF sum 2) d:=Xt (Ql hl hN (zwY hl low N) r1 (C:=zft low N) fun _ _ _ _ _=>rfl) fun _ _ _ _ _=>rfl
 exact Xt (Ql hl hN (zwX hl low N) r2 (C:=zfs low N) fun _ _ _ _ _=>rfl) fun _ _ _ _ _=>rfl
theorem zcq{ts:List Token}(hl:ts.length≤1000){N:Nat}(hN:1003<N)(hw:∀t∈ts,Wd t):∀(k e d:Nat),e+d=32→e<k→ZP ts (fun l a b n v=>zdF N k ((l,(a,b)),(n,v))) (VS zF e) d
 |0,_,_,_,h=>by omega
 |k+1,e,d,hd,hk=>by
  rw[zco];refine zmz hl hN hw (low:=zdF N k) (by omega) ?_;cases e with
  |zero=>exact .inl ⟨by omega,rfl⟩
  |succ e=>exact .inr ⟨by omega,VS zF e,rfl,zcq hl hN hw k e (d+1) (by omega) (by omega)⟩
theorem zyd{ts:List Token}(hl:ts.length≤1000){N:Nat}(hN:1003<N)(hw:∀t∈ts,Wd t):∃q,zdF N 40 ((tkL ts,(0,0)),([],[]))=some q∧zvN ts 0 0 [] [] (VS zF 32 ts) q:=
 zcq hl hN hw 40 32 0 rfl (by omega) 0 [] [] (Nat.zero_le _) (Nat.le_refl _) (Nat.le_refl _)
end Go.Proofs.C06
end
section
set_option maxRecDepth 100000
namespace Go.Proofs.C06
open Go Go.RowKit Go.Vc Go.Am Go.Sp
theorem oc_cases{t:Token}(h:jS zF t=true):(tkOc t=2∧t.Text=[43])∨(tkOc t=3∧t.Text=[45])∨(tkOc t=4∧t.Text=[42])∨(tkOc t=5∧t.Text=[47])∨(tkOc t=6∧t.Text=[42,42]):=by
 have h:((isO t [43]||isO t [45])||((isO t [42]||isO t [47])||isO t [42,42]))=true:=h;refine jy h (fun h=>jy h (fun h=>?_) fun h=>?_) fun h=>jy h (fun h=>jy h (fun h=>?_) fun h=>?_) fun h=>?_
 ·have e:=(qk h).2;exact .inl ⟨by unfold tkOc;rw[e];rfl,e⟩
 ·have e:=(qk h).2;exact .inr (.inl ⟨by unfold tkOc;rw[e];rfl,e⟩)
 ·have e:=(qk h).2;exact .inr (.inr (.inl ⟨by unfold tkOc;rw[e];rfl,e⟩))
 ·have e:=(qk h).2;exact .inr (.inr (.inr (.inl ⟨by unfold tkOc;rw[e];rfl,e⟩)))
 ·have e:=(qk h).2;exact .inr (.inr (.inr (.inr ⟨by unfold tkOc;rw[e];rfl,e⟩)))
theorem zqR{k:Nat}{e:Ex Token}(g:G zF k e):VO tkO e:=by
 induction g with
 |leaf=>exact trivial
 |par _ _ _ ih=>exact ih
 |sgn _ _ ih=>exact ih
 |up _ _ ih=>exact ih
 |bin _ ho _ _ iha ihb=>
  refine⟨?_,iha,ihb⟩;have e:∀t,tkO.oc t=tkOc t:=fun _=>rfl
  rw[e];rcases oc_cases (opk_any ho)with h|h|h|h|h<;>rw[h.1]<;>decide
theorem zvt{k:Nat}{e:Ex Token}(g:G zF k e):e.high≤e.toks.length:=by
 induction g with
 | @leaf l h0 _=>cases l with
  |nil=>exact absurd rfl h0
  |cons t r=>show 1≤(t::r).length;simp
 | @par o c x _ _ _ ih=>
    have:(Ex.par o c x).toks.length=x.toks.length+2:=by simp[Ex.toks]
    rw[this];show x.high≤_;omega
 | @sgn t x _ _ ih=>
   have:(Ex.sgn t x).toks.length=x.toks.length+1:=by simp[Ex.toks]
   rw[this];show x.high+1≤_;omega
 |up _ _ ih=>exact ih
 | @bin k t a b _ _ _ _ iha ihb=>
     have:(Ex.bin t a b).toks.length=a.toks.length+(b.toks.length+1):=by simp[Ex.toks]
     rw[this];show max a.high b.high+1≤_;omega
theorem nds_ok:∀(e:Ex Token)(nb lb:Nat),VO tkO e→∀(j:Nat)(d:Nd),(nds tkO e nb lb)[j]? =some d→(d.op=1∧d.l<lb+e.lvs.length∧d.r=0)∨(d.op=7∧d.l<nb+j∧d.r=0)∨(2≤d.op∧d.op≤6∧d.l<nb+j∧d.r<nb+j)
 |.leaf l,nb,lb,_,j,d,h=>by
  cases j with
  |zero=>cases h;exact .inl ⟨rfl,by show lb<lb+1;omega,rfl⟩
  |succ j=>cases h
 |.par _ _ e,nb,lb,ho,j,d,h=>nds_ok e nb lb ho j d h
 |.sgn t e,nb,lb,ho,j,d,h=>by
  have nl:=jK tkO e nb lb;have cp:=jC tkO e;cases hm:tkO.mn t with
  |false=>
   have e2:nds tkO (.sgn t e) nb lb=nds tkO e nb lb:=by show(match tkO.mn t with|true=>_|false=>_)=_;rw[hm]
   rw[e2]at h;exact nds_ok e nb lb ho j d h
  |true=>
   have e2:nds tkO (.sgn t e) nb lb=nds tkO e nb lb++[⟨7,nb+cnt tkO e-1,0⟩]:=by show(match tkO.mn t with|true=>_|false=>_)=_;rw[hm]
   rw[e2]at h;by_cases hj:j<cnt tkO e
   ·rw[List.getElem?_append_left (by rw[nl];exact hj)]at h;exact nds_ok e nb lb ho j d h
   ·rw[List.getElem?_append_right (by rw[nl];omega),nl]at h;obtain⟨i,hi⟩:∃i,j=cnt tkO e+i:=⟨j-cnt tkO e,by omega⟩
    subst hi;rw[Nat.add_sub_cancel_left]at h;cases i with
    |zero=>cases h;exact .inr (.inl ⟨rfl,by show nb+cnt tkO e-1<_;omega,rfl⟩)
    |succ i=>cases h
 |.bin t a b,nb,lb,⟨ho,ha,hb⟩,j,d,h=>by
  have nla:=jK tkO a nb lb;have nlb:=jK tkO b (nb+cnt tkO a) (lb+a.lvs.length);have ca:=jC tkO a;have cb:=jC tkO b;have hlv:(Ex.bin t a b).lvs.length=a.lvs.length+b.lvs.length:=List.length_append;have h:(nds tkO a nb lb++(nds tkO b (nb+cnt tkO a) (lb+a.lvs.length)++[⟨tkO.oc t,nb+cnt tkO a-1,nb+cnt tkO a+cnt tkO b-1⟩]))[j]? =some d:=h;rw[hlv];by_cases hj:j<cnt tkO a
  ·rw[List.getElem?_append_left (by rw[nla];exact hj)]at h;rcases nds_ok a nb lb ha j d h with⟨k1,k2,k3⟩|k|k
   ·exact .inl ⟨k1,by omega,k3⟩
   ·exact .inr (.inl k)
   ·exact .inr (.inr k)
  ·rw[List.getElem?_append_right (by rw[nla];omega),nla]at h;obtain⟨i,hi⟩:∃i,j=cnt tkO a+i:=⟨j-cnt tkO a,by omega⟩
   subst hi;rw[Nat.add_sub_cancel_left]at h;by_cases hi:i<cnt tkO b
   ·rw[List.getElem?_append_left (by rw[nlb];exact hi)]at h;rcases nds_ok b _ _ hb i d h with⟨k1,k2,k3⟩|⟨k1,k2,k3⟩|⟨k1,k2,k3,k4⟩
    ·exact .inl ⟨k1,by omega,k3⟩
    ·exact .inr (.inl ⟨k1,by omega,k3⟩)
    ·exact .inr (.inr ⟨k1,k2,by omega,by omega⟩)
   ·rw[List.getElem?_append_right (by rw[nlb];omega),nlb]at h;obtain⟨q,hq⟩:∃q,i=cnt tkO b+q:=⟨i-cnt tkO b,by omega⟩
    subst hq;rw[Nat.add_sub_cancel_left]at h;cases q with
    |zero=>cases h;exact .inr (.inr ⟨by dsimp only;omega,by dsimp only;omega,by dsimp only;omega,by dsimp only;omega⟩)
    |succ q=>cases h
theorem nc0(d:Nd):cellOf (ndV d) 0=.int .u8 (d.op:Int):=rfl
theorem nc1(d:Nd):cellOf (ndV d) 1=.int .i64 (d.l:Int):=rfl
theorem nc2(d:Nd):cellOf (ndV d) 2=.int .i64 (d.r:Int):=rfl
theorem nc3(d:Nd):lenB (ndV d) 3=true:=rfl
theorem zcQ{ns:List Nd}{i:Nat}{d:Nd}(h:ns[i]? =some d):atV (ns.map ndV) (i:Int)=ndV d:=by rw[VK,List.getD_eq_getElem?_getD,List.getElem?_map,h];rfl
theorem zib{ns:List Nd}{i:Nat}{d:Nd}(h:ns[i]? =some d):inIx (i:Int) (ns.map ndV).length=true:=by have:=(List.getElem?_eq_some_iff.1 h).1;exact zC.2 ⟨by omega,by rw[List.length_map];omega⟩
theorem zw0{ls:List (List Token)}{i:Nat}{l:List Token}(h:ls[i]? =some l):atV (ls.map lfV) (i:Int)=lfV l:=by rw[VK,List.getD_eq_getElem?_getD,List.getElem?_map,h];rfl
theorem zxO{ls:List (List Token)}{i:Nat}{l:List Token}(h:ls[i]? =some l):inIx (i:Int) (ls.map lfV).length=true:=by have:=(List.getElem?_eq_some_iff.1 h).1;exact zC.2 ⟨by omega,by rw[List.length_map];omega⟩
theorem zwZ(l:List Token):zda 5 (lfV l)=true:=rfl
theorem zxN(l:List Token):zqj (lfV l)=tkL l:=rfl
def exE(ns:List Nd)(ls:List (List Token)):Expr:=⟨ns.map ndV,ls.map lfV⟩
theorem znH{N:Nat}(hN:1003<N)(ns:List Nd)(ls:List (List Token)){lev:Nat}{e:Ex Token}(g:G zF lev e):∀(nb lb k:Nat),e.high≤k→e.toks.length≤1000→(∀t∈e.toks,Sh t)→(∀i,i<cnt tkO e→ns[nb+i]? =(nds tkO e nb lb)[i]?)→(∀i,i<e.lvs.length→ls[lb+i]? =e.lvs[i]?)→
  Jj N k (((nb+cnt tkO e-1:Nat):Int),exE ns ls)=some (e.fold calA).text:=by
 induction g with
 |up _ _ ih=>exact ih
 |par _ _ _ ih=>
  intro nb lb k hh hl hs hn hv;rename_i o c x _ _ _;have hlx:(Ex.par o c x).toks.length=x.toks.length+2:=by simp[Ex.toks]
  exact ih nb lb k hh (by omega) (fun t ht=>hs t (by simp[Ex.toks,ht])) hn hv
 | @leaf l h0 hll=>
  intro nb lb k hh hl hs hn hv;obtain⟨k,rfl⟩:∃m,k=m+1:=⟨k-1,by have:1≤k:=hh;omega⟩
  have h1:ns[nb]? =some ⟨1,lb,0⟩:=hn 0 (by simp[cnt]);have h2:ls[lb]? =some l:=hv 0 (by simp[Ex.lvs]);have hkt:zc8 N (tkL l)=some (ktx l):=ziz (ts:=l) hl (by have:l.length≤1000:=hl;omega) hs;show(bnd (Z6 (Jj N k) N ((nb:Nat):Int) (exE ns ls)) fun r=>some r.1)=_;unfold Z6 exE;dsimp only;simp only[zcQ h1,zib h1,nc0,nc1,nc2,nc3,qi,jr,zY,Bool.and_true,za];rw[decide_eq_true (show((1:Nat):Int)=1 from rfl),cond_true,zxO h2,zw0 h2,zwZ,Bool.and_true,za,zxN,hkt];rfl
 | @sgn t x ht hx ih=>
  intro nb lb k hh hl hs hn hv;obtain⟨k,rfl⟩:∃m,k=m+1:=⟨k-1,by have:x.high+1≤k:=hh;omega⟩
  have hh:x.high≤k:=by have:x.high+1≤k+1:=hh;omega
  have hlx:(Ex.sgn t x).toks.length=x.toks.length+1:=by simp[Ex.toks]
  have hsx:∀t∈x.toks,Sh t:=fun t ht=>hs t (by simp[Ex.toks,ht])
  have cp:=jC tkO x;have nl:=jK tkO x nb lb;have ef:(Ex.sgn t x).fold calA=if isO t [43]then x.fold calA else⟨(x.fold calA).d_Neg,(x.fold calA).d_Digits,(x.fold calA).d_Scale,(x.fold calA).e,QI (x.fold calA).text,(x.fold calA).leaves,(x.fold calA).depth⟩:=rfl
  have ht:(isO t [43]||isO t [45])=true:=ht;rw[ef];cases hm:tkO.mn t with
  |false=>
   have hm':isO t [45]=false:=hm;rw[hm',Bool.or_false]at ht;rw[ht,if_pos rfl];have c1:cnt tkO (.sgn t x)=cnt tkO x:=by show(match tkO.mn t with|true=>_|false=>_)=_;rw[hm]
   have c2:nds tkO (.sgn t x) nb lb=nds tkO x nb lb:=by show(match tkO.mn t with|true=>_|false=>_)=_;rw[hm]
   rw[c1,c2]at hn;rw[c1];exact ih nb lb (k+1) (by omega) (by omega) hsx hn hv
  |true=>
   have hm':isO t [45]=true:=hm;rw[jG hm' (by decide),if_neg (by simp)];have c1:cnt tkO (.sgn t x)=cnt tkO x+1:=by show(match tkO.mn t with|true=>_|false=>_)=_;rw[hm]
   have c2:nds tkO (.sgn t x) nb lb=nds tkO x nb lb++[⟨7,nb+cnt tkO x-1,0⟩]:=by show(match tkO.mn t with|true=>_|false=>_)=_;rw[hm]
   rw[c1,c2]at hn;rw[c1];have h1:=hn (cnt tkO x) (by omega);rw[List.getElem?_append_right (by rw[nl];exact Nat.le_refl _),nl,Nat.sub_self]at h1;have h1:ns[nb+cnt tkO x]? =some ⟨7,nb+cnt tkO x-1,0⟩:=h1;have e1:=ih nb lb k hh (by omega) hsx (fun i hi=>by rw[hn i (by omega),List.getElem?_append_left (by rw[nl];exact hi)]) hv;obtain⟨_,_,_,_,_,c6⟩:=XK hx hsx;rw[show nb+(cnt tkO x+1)-1=nb+cnt tkO x by omega];show(bnd (Z6 (Jj N k) N ((nb+cnt tkO x:Nat):Int) (exE ns ls)) fun r=>some r.1)=_;have e1:Jj N k (((nb+cnt tkO x-1:Nat):Int),⟨ns.map ndV,ls.map lfV⟩)=_:=e1;unfold Z6 exE;dsimp only;simp only[zcQ h1,zib h1,nc0,nc1,nc2,nc3,qi,jr,zY,Bool.and_true,za];rw[decide_eq_false (show¬((7:Nat):Int)=1 by decide),cond_false,decide_eq_true (show((7:Nat):Int)=7 from rfl),cond_true,e1,zf,je (by simp) (by omega),za,je (by simp only[List.length_append,List.length_cons,List.length_nil];omega) (by simp),za];rfl
 | @bin j t a b hj ho ha hb iha ihb=>
  intro nb lb k hh hl hs hn hv;obtain⟨k,rfl⟩:∃m,k=m+1:=⟨k-1,by have:max a.high b.high+1≤k:=hh;omega⟩
  have hh:max a.high b.high≤k:=by have:max a.high b.high+1≤k+1:=hh;omega
  have hlx:(Ex.bin t a b).toks.length=a.toks.length+(b.toks.length+1):=by simp[Ex.toks]
  have hsa:∀t∈a.toks,Sh t:=fun t ht=>hs t (by simp[Ex.toks,ht])
  have hsb:∀t∈b.toks,Sh t:=fun t ht=>hs t (by simp[Ex.toks,ht])
  have ca:=jC tkO a;have cb:=jC tkO b;have nla:=jK tkO a nb lb;have nlb:=jK tkO b (nb+cnt tkO a) (lb+a.lvs.length);have hlv:(Ex.bin t a b).lvs=a.lvs++b.lvs:=rfl;rw[hlv]at hv;have c1:cnt tkO (.bin t a b)=cnt tkO a+cnt tkO b+1:=rfl;have c2:nds tkO (.bin t a b) nb lb=nds tkO a nb lb++(nds tkO b (nb+cnt tkO a) (lb+a.lvs.length)++[⟨tkOc t,nb+cnt tkO a-1,nb+cnt tkO a+cnt tkO b-1⟩]):=rfl;rw[c1,c2]at hn;rw[c1];have h1:=hn (cnt tkO a+cnt tkO b) (by omega);rw[List.getElem?_append_right (by rw[nla];omega),nla,List.getElem?_append_right (by rw[nlb];omega),nlb,show cnt tkO a+cnt tkO b-cnt tkO a-cnt tkO b=0 by omega]at h1;have h1:ns[nb+(cnt tkO a+cnt tkO b)]? =some ⟨tkOc t,nb+cnt tkO a-1,nb+cnt tkO a+cnt tkO b-1⟩:=h1;have ea:=iha nb lb k (Nat.le_trans (Nat.le_max_left _ _) hh) (by omega) hsa (fun i hi=>by rw[hn i (by omega),List.getElem?_append_left (by rw[nla];exact hi)])
   (fun i hi=>by rw[hv i (by rw[List.length_append];omega),List.getElem?_append_left hi])
  have eb:=ihb (nb+cnt tkO a) (lb+a.lvs.length) k (Nat.le_trans (Nat.le_max_right _ _) hh) (by omega) hsb (fun i hi=>by
    have:=hn (cnt tkO a+i) (by omega);rw[List.getElem?_append_right (by rw[nla];omega),nla,List.getElem?_append_left (by rw[nlb];omega),Nat.add_sub_cancel_left]at this;rw[Nat.add_assoc,this])
   (fun i hi=>by have:=hv (a.lvs.length+i) (by rw[List.length_append];omega);rw[Nat.add_assoc,this,List.getElem?_append_right (by omega),Nat.add_sub_cancel_left])
  obtain⟨_,_,_,_,_,a6⟩:=XK ha hsa;obtain⟨_,_,_,_,_,b6⟩:=XK hb hsb;rw[show nb+(cnt tkO a+cnt tkO b+1)-1=nb+(cnt tkO a+cnt tkO b)by omega];show(bnd (Z6 (Jj N k) N ((nb+(cnt tkO a+cnt tkO b):Nat):Int) (exE ns ls)) fun r=>some r.1)=some (VI (a.fold calA).text t (b.fold calA).text);have ea:Jj N k (((nb+cnt tkO a-1:Nat):Int),⟨ns.map ndV,ls.map lfV⟩)=_:=ea;have eb:Jj N k (((nb+cnt tkO a+cnt tkO b-1:Nat):Int),⟨ns.map ndV,ls.map lfV⟩)=_:=eb;generalize (a.fold calA).text=sa at ea a6⊢;generalize (b.fold calA).text=sb at eb b6⊢;unfold Z6 exE;dsimp only;simp only[zcQ h1,zib h1,nc0,nc1,nc2,nc3,qi,jr,zY,Bool.and_true,za,ea,eb,zf];have k0:zB [40,32] sa=true:=je (by simp) (by omega);have k1:zB ([40,32]++sa) [32]=true:=je (by simp only[List.length_append,List.length_cons,List.length_nil];omega) (by simp);have k2:∀w:List UInt8,w.length≤8→zB (([40,32]++sa)++[32]) w=true∧zB ((([40,32]++sa)++[32])++w) [32]=true∧zB (((([40,32]++sa)++[32])++w)++[32]) sb=true∧zB ((((([40,32]++sa)++[32])++w)++[32])++sb) [32,41]=true:=fun w hw'=>
   ⟨je (by simp only[List.length_append,List.length_cons,List.length_nil];omega) (by omega),je (by simp only[List.length_append,List.length_cons,List.length_nil];omega) (by simp),je (by simp only[List.length_append,List.length_cons,List.length_nil];omega) (by omega),
    je (by simp only[List.length_append,List.length_cons,List.length_nil];omega) (by simp)⟩
  rw[k0,k1];have no1:∀n:Nat,2≤n→n≤6→decide ((n:Int)=1)=false∧decide ((n:Int)=7)=false:=fun n h2 h6=>⟨decide_eq_false (by omega),decide_eq_false (by omega)⟩
  unfold VI;rcases oc_cases (opk_any ho)with⟨o1,o2⟩|⟨o1,o2⟩|⟨o1,o2⟩|⟨o1,o2⟩|⟨o1,o2⟩
  ·obtain⟨w1,w2,w3,w4⟩:=k2 [43] (by simp);rw[o1,o2];simp only[w1,w2,w3,w4,za,(no1 2 (by omega) (by omega)).1,(no1 2 (by omega) (by omega)).2,cond_false,decide_eq_true (show((2:Nat):Int)=2 from rfl),cond_true,zf]
  ·obtain⟨w1,w2,w3,w4⟩:=k2 [45] (by simp);rw[o1,o2];simp only[w1,w2,w3,w4,za,(no1 3 (by omega) (by omega)).1,(no1 3 (by omega) (by omega)).2,cond_false,decide_eq_false (show¬((3:Nat):Int)=2 by decide),decide_eq_true (show((3:Nat):Int)=3 from rfl),cond_true,zf]
  ·obtain⟨w1,w2,w3,w4⟩:=k2 [42] (by simp);rw[o1,o2];simp only[w1,w2,w3,w4,za,(no1 4 (by omega) (by omega)).1,(no1 4 (by omega) (by omega)).2,cond_false,decide_eq_false (show¬((4:Nat):Int)=2 by decide),decide_eq_false (show¬((4:Nat):Int)=3 by decide),decide_eq_true (show((4:Nat):Int)=4 from rfl),cond_true,zf]
  ·obtain⟨w1,w2,w3,w4⟩:=k2 [47] (by simp);rw[o1,o2];simp only[w1,w2,w3,w4,za,(no1 5 (by omega) (by omega)).1,(no1 5 (by omega) (by omega)).2,cond_false,decide_eq_false (show¬((5:Nat):Int)=2 by decide),decide_eq_false (show¬((5:Nat):Int)=3 by decide),decide_eq_false (show¬((5:Nat):Int)=4 by decide),decide_eq_true (show((5:Nat):Int)=5 from rfl),cond_true,zf]
  ·obtain⟨w1,w2,w3,w4⟩:=k2 [42,42] (by simp);rw[o1,o2];simp only[w1,w2,w3,w4,za,(no1 6 (by omega) (by omega)).1,(no1 6 (by omega) (by omega)).2,cond_false,decide_eq_false (show¬((6:Nat):Int)=2 by decide),decide_eq_false (show¬((6:Nat):Int)=3 by decide),decide_eq_false (show¬((6:Nat):Int)=4 by decide),decide_eq_false (show¬((6:Nat):Int)=5 by decide),decide_eq_true (show((6:Nat):Int)=6 from rfl),cond_true,zf]
end Go.Proofs.C06
end
section
set_option maxRecDepth 100000
namespace Go.Proofs.C06
open Go Go.RowKit Go.Vc Go.Am Go.Sp
theorem VY(N:Nat){k i:Nat}(h:k<i):VZ N (k:Int) (i:Int)=some (true,(i:Int)):=by unfold VZ;rw[decide_eq_true (by omega),cond_true,decide_eq_true (by omega)]
theorem zmG(N:Nat){ns:List Nd}{ls:List (List Token)}{i:Nat}{d:Nd}(h:ns[i]? =some d)(hd:(d.op=1∧d.l<ls.length∧d.r=0)∨(d.op=7∧d.l<i∧d.r=0)∨(2≤d.op∧d.op≤6∧d.l<i∧d.r<i)):zfd N (exE ns ls) (i:Int)=some true:=by
 unfold zfd exE;dsimp only;simp only[zcQ h,zib h,nc0,nc1,nc2,nc3,qi,jr,zY,Bool.and_true,za];rcases hd with⟨h1,h2,h3⟩|⟨h1,h2,h3⟩|⟨h1,h2,h3,h4⟩
 ·rw[h1,h3,decide_eq_true (show((1:Nat):Int)=1 from rfl),cond_true,decide_eq_true (by omega),cond_true,decide_eq_true (by rw[List.length_map];omega),cond_true];rfl
 ·rw[h1,h3,decide_eq_false (show¬((7:Nat):Int)=1 by decide),cond_false,decide_eq_true (show((7:Nat):Int)=7 from rfl),cond_true,VY N h2,zf];rfl
 ·rw[decide_eq_false (show¬(d.op:Int)=1 by omega),cond_false,decide_eq_false (show¬(d.op:Int)=7 by omega),cond_false,decide_eq_true (by omega),cond_true,decide_eq_true (by omega),cond_true,VY N h3,zf];dsimp only;rw[cond_true,VY N h4,zf]
def uV(u:List Nat):List Int:=u.map (fun n:Nat=>(n:Int))
theorem zkp{b n:Nat}(h:b≤n):zL 0 (b:Int) n=true:=qX (a:=0) (Nat.zero_le _) h
theorem zk2(u:List Nat)(i:Nat):atI (uV u) (i:Int)=((u.getD i 0:Nat):Int):=by rw[zmo,List.getD_eq_getElem?_getD,List.getD_eq_getElem?_getD];unfold uV;rw[List.getElem?_map];cases u[i]? <;>rfl
theorem zjc(u:List Nat)(i:Nat):(uV u).set i (((u.getD i 0:Nat):Int)+1)=uV (inc u i):=by unfold uV inc;rw[List.map_set];rfl
theorem VR(u:List Nat):(uV u).length=u.length:=by unfold uV;rw[List.length_map]
theorem zmb(u:List Nat)(i:Nat):(inc u i).length=u.length:=by unfold inc;rw[List.length_set]
theorem znD(u:List Nat)(d:Nd):(yu u d).length=u.length:=by
 unfold yu
 (repeat' split)<;>simp[zmb]
def Bd(u:List Nat)(b:Nat):Prop:=∀i,u.getD i 0≤b
theorem zgW{u:List Nat}{b:Nat}(h:Bd u b)(i:Nat):Bd (inc u i) (b+1):=fun j=>by
 unfold inc;rw[List.getD_eq_getElem?_getD,List.getElem?_set];split
 ·split
  ·have:=h i;rw[Option.getD_some];omega
  ·simp
 ·have:=h j;rw[List.getD_eq_getElem?_getD]at this;omega
theorem zrV{u:List Nat}{b:Nat}(h:Bd u b)(d:Nd):Bd (yu u d) (b+2):=by
 have w:∀{c:Nat},Bd u c→Bd u (c+2):=fun h i=>by have:=h i;omega
 unfold yu;split
 ·exact zgW (zgW h _) _
 ·split
  ·exact fun j=>by have:=zgW h d.l j;omega
  ·exact w h
theorem zl9{i n:Nat}(h:i<n):inIx (i:Int) n=true:=zC.2 ⟨by omega,by omega⟩
theorem zkt{ns:List Nd}{i:Nat}{d:Nd}(h:ns[i]? =some d)(u:List Nat):(ns.take (i+1)).foldl yu u=yu ((ns.take i).foldl yu u) d:=by obtain⟨hlt,hd⟩:=List.getElem?_eq_some_iff.1 h;rw[List.take_succ_eq_append_getElem hlt,List.foldl_append,hd];rfl
theorem zne(ns:List Nd):∀u:List Nat,(ns.foldl yu u).length=u.length:=by
 induction ns with
 |nil=>intro _;rfl
 |cons d r ih=>intro u;show(r.foldl yu (yu u d)).length=_;rw[ih,znD]
theorem zeq{N:Nat}{n:Nat}(hn:n≤1000):∀(k j:Nat),j≤n→n-j<k→Zw N k 0 (n:Int) (n:Int) (j:Int) (uV (List.replicate n 1++[0]))=some 0
 |0,_,_,h=>by omega
 |k+1,j,hj,hk=>by
  show JE N (Zw N k) 0 (n:Int) (n:Int) (j:Int) _=_;unfold JE;by_cases h:j<n
  ·have e:(List.replicate n 1++[0]).getD j 0=1:=by rw[List.getD_eq_getElem?_getD,List.getElem?_append_left (by rw[List.length_replicate];exact h),List.getElem?_replicate,if_pos h];rfl
   rw[decide_eq_true (by omega),cond_true,decide_eq_true (show(0:Int)≤(j:Int)by omega),Bool.true_and,za,show(0:Int)+(j:Int)=(j:Int)by omega,zl9 (by rw[VR];simp;omega),za,zk2,e,decide_eq_true (show((1:Nat):Int)=1 from rfl),Bool.not_true,cond_false,jo (by omega) (by omega),za];exact zeq hn k (j+1) (by omega) (by omega)
  ·rw[decide_eq_false (by omega),cond_false]
theorem zdr{N:Nat}(hN:1003<N){e:Ex Token}(ho:VO tkO e)(hc:cnt tkO e≤1000):∀(k i:Nat),i≤cnt tkO e→cnt tkO e-i<k→
  yN N k ((nds tkO e 0 0).map ndV) (cnt tkO e:Int) (i:Int) (exE (nds tkO e 0 0) e.lvs) (uV (((nds tkO e 0 0).take i).foldl yu (List.replicate (cnt tkO e) 0)))=some 0
 |0,_,_,h=>by omega
 |k+1,i,hi,hk=>by
  have nl:=jK tkO e 0 0;have cp:=jC tkO e;have ul:(((nds tkO e 0 0).take i).foldl yu (List.replicate (cnt tkO e) 0)).length=cnt tkO e:=by rw[zne,List.length_replicate]
  show JF N (yN N k) _ (cnt tkO e:Int) (i:Int) _ _=_;unfold JF;by_cases h:i<cnt tkO e
  ·have hg:(nds tkO e 0 0)[i]? =some (nds tkO e 0 0)[i]:=List.getElem?_eq_getElem (by rw[nl];exact h);have hd:=nds_ok e 0 0 ho i _ hg;rw[Nat.zero_add,Nat.zero_add]at hd;have next:=zdr hN ho hc k (i+1) (by omega) (by omega)
   rw[zkt hg]at next
   have bd:∀m,Bd (((nds tkO e 0 0).take m).foldl yu (List.replicate (cnt tkO e) 0)) (2*(nds tkO e 0 0).length):=by
    have gen:∀(l:List Nd)(u:List Nat)(b:Nat),Bd u b→Bd (l.foldl yu u) (b+2*l.length):=by
     intro l;induction l with
     |nil=>intro u b h;exact h
     |cons d r ih=>intro u b h;have:=ih (yu u d) (b+2) (zrV h d);rw[List.length_cons];intro j;have:=this j;show((r.foldl yu (yu u d)).getD j 0)≤_;omega
    intro m j;have:=gen ((nds tkO e 0 0).take m) (List.replicate (cnt tkO e) 0) 0 (fun j=>by rw[List.getD_eq_getElem?_getD,List.getElem?_replicate];split<;>simp) j;rw[List.length_take]at this;omega
   have b0:=bd i;rw[nl]at b0;generalize (nds tkO e 0 0)[i]=d at hg hd next
   generalize hu:((nds tkO e 0 0).take i).foldl yu (List.replicate (cnt tkO e) 0)=u at ul b0 next⊢
   have hval:=zmG N (ls:=e.lvs) hg hd;rw[decide_eq_true (by omega),cond_true];simp only[zcQ hg,zib hg,nc0,nc1,nc2,nc3,qi,jr,zY,Bool.and_true,za,hval,zf];rw[Bool.not_true,cond_false];have i1:(i:Int)+1=((i+1:Nat):Int):=rfl;have j1:inKb .i64 ((i+1:Nat):Int)=true:=jo (by omega) (by omega);rcases hd with⟨h1,h2,h3⟩|⟨h1,h2,h3⟩|⟨h1,h2,h3,h4⟩
   ·have eu:yu u d=u:=by unfold yu;rw[if_neg (by omega),if_neg (by omega)]
    rw[eu]at next
    rw[decide_eq_false (by omega),cond_false];unfold sCheckE_k1;dsimp only;rw[decide_eq_false (by omega),cond_false];unfold qn;rw[cond_false,i1,j1,za];exact next
   ·have eu:yu u d=inc u d.l:=by unfold yu;rw[if_neg (by omega),if_pos (by omega)]
    rw[eu]at next
    have v1:=b0 d.l;rw[decide_eq_true (by omega),cond_true,zl9 (by rw[VR,ul];omega),za,za,zk2,jo (by omega) (by omega),za,za,za,Int.toNat_natCast,zjc];unfold sCheckE_k1;dsimp only;rw[decide_eq_true (by omega),cond_true,decide_eq_false (by omega)];unfold qn;rw[cond_false,i1,j1,za];exact next
   ·have eu:yu u d=inc (inc u d.l) d.r:=by unfold yu;rw[if_pos ⟨by omega,by omega⟩]
    rw[eu]at next
    have v1:=b0 d.l;have v2:=zgW b0 d.l d.r;rw[decide_eq_true (by omega),cond_true,zl9 (by rw[VR,ul];omega),za,za,zk2,jo (by omega) (by omega),za,za,za,Int.toNat_natCast,zjc];unfold sCheckE_k1;dsimp only;rw[decide_eq_true (by omega),cond_true,decide_eq_true (by omega)];unfold qn;dsimp only;rw[cond_true,zl9 (by rw[VR,zmb,ul];omega),za,za,zk2,jo (by omega) (by omega),za,za,za,Int.toNat_natCast,zjc,i1,j1,za];exact next
  ·have e1:i=cnt tkO e:=by omega
   have seg:=Ji tkO e 0 [] [] ho;have hs:((nds tkO e 0 0).take i).foldl yu (List.replicate (cnt tkO e) 0)=List.replicate (cnt tkO e-1) 1++[0]:=by rw[List.take_of_length_le (by omega)];simpa using seg
   rw[decide_eq_false (by omega),cond_false,hs];have l1:((uV (List.replicate (cnt tkO e-1) 1++[0])).length:Int)-1=((cnt tkO e-1:Nat):Int):=by rw[VR,List.length_append,List.length_replicate,List.length_singleton];omega
   rw[l1,jo (by omega) (by omega),za,zkp (by rw[VR,List.length_append,List.length_replicate];simp),za,show((cnt tkO e-1:Nat):Int)-0=((cnt tkO e-1:Nat):Int)by omega];exact zeq (by omega) N 0 (Nat.zero_le _) (by omega)
theorem zeb{N:Nat}(hN:1003<N){e:Ex Token}(ho:VO tkO e)(hc:cnt tkO e≤1000):JG N (exE (nds tkO e 0 0) e.lvs)=some 0:=by
 have nl:=jK tkO e 0 0;have cp:=jC tkO e;have ll:((exE (nds tkO e 0 0) e.lvs).Nodes.length:Int)=(cnt tkO e:Int):=by unfold exE;dsimp only;rw[List.length_map,nl]
 have hr:List.replicate ((cnt tkO e:Int)).toNat (0:Int)=uV (((nds tkO e 0 0).take 0).foldl yu (List.replicate (cnt tkO e) 0)):=by rw[Int.toNat_natCast];show _=(List.replicate (cnt tkO e) 0).map _;rw[List.map_replicate];rfl
 unfold JG;rw[ll,decide_eq_false (by omega),cond_false,decide_eq_false (by omega),cond_false,mk8 hc,decide_eq_true rfl,Bool.true_and,za,hr];exact zdr hN ho hc N 0 (Nat.zero_le _) (by omega)
theorem zo2{N:Nat}(hN:1003<N){e:Ex Token}(g:G zF 0 e)(hl:e.toks.length≤59)(hc:cnt tkO e≤1000)(hs:∀t∈e.toks,Sh t):VW N (exE (nds tkO e 0 0) e.lvs)=some (e.fold calA).text:=by
 have nl:=jK tkO e 0 0;have cp:=jC tkO e;have ll:((exE (nds tkO e 0 0) e.lvs).Nodes.length:Int)=(cnt tkO e:Int):=by unfold exE;dsimp only;rw[List.length_map,nl]
 have hh:=zvt g;have tx:=znH hN (nds tkO e 0 0) e.lvs g 0 0 60 (by omega) (by omega) hs (fun i _=>by rw[Nat.zero_add]) (fun i _=>by rw[Nat.zero_add]);unfold VW;rw[ll,decide_eq_false (by omega),cond_false,zeb hN (zqR g) hc,zf,decide_eq_true (show(0:Int)=0 from rfl),Bool.not_true,cond_false];unfold zwy;rw[zf,jo (by omega) (by omega),za,show(cnt tkO e:Int)-1=((0+cnt tkO e-1:Nat):Int)by omega,tx,zf]
theorem zxG(k:IntKind)(x:Int):qJ (.int k x) (.int k x)=true:=by cases k<;>simp[qJ,kEq]
theorem zxF(i j a b:Nat)(x y:Int):qJ (.agg [.rwc i a 0 x,.rwc j b 0 y]) (.agg [.rwc i a 0 x,.rwc j b 0 y])=true:=by simp[qJ,y6]
theorem zxx{α:Type}(l:List α):Am.subL l 0 (0+((l.length:Int)-0))=l:=by rw[show(0:Int)+((l.length:Int)-0)=(l.length:Int)by omega];exact zhD l
theorem inS{n:Nat}:zL 0 (n:Int) n=true:=zkp (Nat.le_refl _)
theorem sFirst_is{ts:List Token}(hl:ts.length≤1000){N:Nat}(hN:1003<N)(hw:∀t∈ts,Wd t):
  (∃ex p,VS zF 32 ts=.ok ex (ts.drop p)∧p≤ts.length∧cnt tkO ex≤p∧Z8 N (tkL ts)=some ((nds tkO ex 0 0).map ndV,ex.lvs.map lfV,(p:Int),0))∨
  (∃l x,VS zF 32 ts=.err l∧x≠0∧Z8 N (tkL ts)=some ([],[],0,x)):=by
 obtain⟨q,h1,h2⟩:=zyd hl hN hw;unfold Z8;cases hr:VS zF 32 ts with
 |err l=>rw[hr]at h2;obtain⟨g1,g2⟩:=h2;refine .inr ⟨l,q.2.1,rfl,g1,?_⟩;have h1:zdF N 40 ((tkL ts,0,0),[],[])=some q:=h1;rw[h1,zf,decide_eq_false g1,Bool.not_false,cond_true]
 |ok ex r=>rw[hr]at h2;obtain⟨p,g1,g2,g3,g4,rfl⟩:=h2;refine .inl ⟨ex,p,by rw[g1],g2,g3,?_⟩;have h1:zdF N 40 ((tkL ts,0,0),[],[])=_:=h1;rw[h1,zf];dsimp only[List.nil_append,List.length_nil];rw[decide_eq_true (show(0:Int)=0 from rfl),Bool.not_true,cond_false];simp only[inS,zxG,zxF,decide_true,Bool.and_self,za,zxx]
end Go.Proofs.C06
end
section
set_option maxRecDepth 100000
namespace Go.Proofs.C06
open Go Go.RowKit Go.Vc Go.Am Go.Sp
theorem zvi{c:Int}{k:Int}(h:0<k):∃n:Nat,c%k=(n:Int)∧(n:Int)<k:=by obtain⟨n,hn⟩:=Int.eq_ofNat_of_zero_le (Int.emod_nonneg c (by omega:k≠0));exact⟨n,hn,by have:=Int.emod_lt_of_pos c h;omega⟩
theorem zxl{L:List AV}{m:Nat}{v:AV}(h:L[m]? =some v):atV L (m:Int)=v:=by rw[VK,List.getD_eq_getElem?_getD,h];rfl
theorem zx7{L:List AV}{m:Nat}{v:AV}(h:L[m]? =some v):inIx (m:Int) L.length=true:=by have:=(List.getElem?_eq_some_iff.1 h).1;exact zC.2 ⟨by omega,by omega⟩
theorem zw6{n:Nat}(h:n≤100000):growOk 48 n=true:=by unfold growOk;simp only[Bool.and_eq_true,Nat.ble_eq];omega
def zx9(v:AV):Prop:=∃a b:Int,v=.agg [.int .u8 a,.int .u8 b]∧0≤a∧0≤b
def zaq:List (List UInt8):=[[40],[41],[43],[45],[42],[47],[42,42],[58],[61],[65],[66,45,49],[79,70],[73,78],[90,69,82,79],[84,79],[53]]
theorem zlb:∀n:Nat,n<16→zgJ (zaq.getD n []) JU=true∧(zaq.getD n []).length≤8:=by
 intro n hn;rcases n with _|_|_|_|_|_|_|_|_|_|_|_|_|_|_|_|n
 all_goals first|exact⟨by rfl,by decide⟩|(exfalso;omega)
theorem zqn{N:Nat}{a b:Int}(ha:0≤a)(hb:0≤b):∃t,zeh N ⟨a,b⟩=some t∧Wd t∧Sh t:=by
 obtain⟨n,hn,hl⟩:=zvi (c:=b) (k:=16) (by decide);have hn16:n<16:=by omega
 have key:∀k:Int,∃t,(some (⟨k,atS zaq (n:Int),0,0,false⟩:Token))=some t∧Wd t∧Sh t:=fun k=>by
  have e:atS zaq (n:Int)=zaq.getD n []:=by unfold atS;rw[Int.toNat_natCast]
  exact⟨_,rfl,fun _=>by rw[e];exact (zlb n hn16).1,by unfold Sh;rw[e];exact (zlb n hn16).2⟩
 have i1:inIx (n:Int) zaq.length=true:=zC.2 ⟨by omega,by show(n:Int)<16;omega⟩;have i2:yP b=true:=decide_eq_true hb;have i3:yP a=true:=decide_eq_true ha;unfold zeh;dsimp only;rw[i2,i3,hn];show∃t,chk (inIx (n:Int) zaq.length) (chk (inIx (n:Int) zaq.length) (cond (decide (200<a)) (some (⟨a%9,atS zaq (n:Int),0,0,false⟩:Token))
  (cond (decide ((n:Int)<9)) (some ⟨5,atS zaq (n:Int),0,0,false⟩) (cond (decide ((n:Int)=15)) (some ⟨2,atS zaq (n:Int),0,0,false⟩) (some ⟨1,atS zaq (n:Int),0,0,false⟩)))))=some t∧_
 rw[i1,za,za];cases decide (200<a)with
 |true=>exact key _
 |false=>
  cases decide ((n:Int)<9)with
  |true=>exact key _
  |false=>
   cases decide ((n:Int)=15)with
   |true=>exact key _
   |false=>exact key _
def Is(ts:List Token):Prop:=∃e,G zF 0 e∧e.toks=ts
theorem ziA{e:Ex Token}(g:G zF 0 e)(hl:e.toks.length≤40):VS zF 32 e.toks=.ok e []:=by have:=ze1 (d:=32) g (by have:=e.deep_le;omega) (s:=[]) (.inl rfl);rw[List.append_nil]at this;exact this
theorem zcR{N:Nat}{ts:List Token}(hl:ts.length≤1000)(hN:ts.length<N)(hw:∀t∈ts,Wd t):∃q,Jf N (tkL ts)=some q∧(q.2=true↔Is ts):=by
 obtain⟨q,h1,h2⟩:=zet hl hN hw;refine⟨q,h1,?_⟩;have iff:=zww (L:=zF) (l:=ts) (Nat.lt_succ_self _);cases hs:sc zF (ts.length+1) ts 0 false with
 |none=>rw[hs]at h2 iff;have h2:q.2=false:=h2;rw[h2];exact⟨fun h=>absurd h (by simp),fun h=>absurd (iff.2 h) (by simp)⟩
 |some os=>rw[hs]at h2 iff;have h2:q=([]++os.map m01,true):=h2;rw[h2];exact⟨fun _=>iff.1 rfl,fun _=>rfl⟩
theorem first_is{ts:List Token}(hl:ts.length≤40){N:Nat}(hN:1003<N)(hw:∀t∈ts,Wd t):
  (∃ex s,G zF 0 ex∧ts=ex.toks++s∧(∀t q,s=t::q→∀j,j≤2→opk zF j t=false)∧(s=[]↔Is ts)∧cnt tkO ex≤40∧Z8 N (tkL ts)=some ((nds tkO ex 0 0).map ndV,ex.lvs.map lfV,(ex.toks.length:Int),0))∨
  (∃x,¬Is ts∧x≠0∧Z8 N (tkL ts)=some ([],[],0,x)):=by
 rcases sFirst_is (by omega) hN hw with⟨ex,p,h1,h2,h3,h4⟩|⟨l,x,h1,h2,h3⟩
 ·obtain⟨g,he,hq⟩:=zd4 32 ts ex (ts.drop p) h1;have hp:p=ex.toks.length:=by have:=congrArg List.length he;rw[List.length_append,List.length_drop]at this;omega
  subst hp;refine .inl ⟨ex,ts.drop ex.toks.length,g,he,fun t q e j hj=>hq t q e j (Nat.zero_le _) hj,⟨fun hs=>⟨ex,g,by rw[hs,List.append_nil]at he;exact he.symm⟩,fun⟨e,g2,he2⟩=>?_⟩,by omega,h4⟩;have:=ziA g2 (by rw[he2];exact hl);rw[he2,h1]at this;exact (R.ok.inj this).2
 ·refine .inr ⟨x,fun⟨e,g2,he2⟩=>?_,h2,h3⟩;have:=ziA g2 (by rw[he2];exact hl);rw[he2,h1]at this;cases this
theorem zvb:¬Is []:=fun⟨_,g,h⟩=>g.ne h
theorem Qp{b:Bool}{P:Prop}(h:b=true↔P)(hn:¬P):b=false:=by
 cases b with
 |false=>rfl
 |true=>exact absurd (h.1 rfl) hn
section
variable {ts : List Token} (hl : ts.length ≤ 40) {N : Nat} (hN : 1003 < N) (hw : ∀ t ∈ ts, Wd t) (hs : ∀ t ∈ ts, Sh t)
include hl hN hw
theorem zrd{ok:Bool}(ho:ok=true↔Is ts):j5 N (tkL ts) ok=some true:=by
 unfold j5;rcases first_is hl hN hw with⟨ex,s,g,he,hq,hi,hc,hf⟩|⟨x,hn,hx,hf⟩
 ·have hlen:ts.length=ex.toks.length+s.length:=by rw[he,List.length_append]
  have hne:1≤ex.toks.length:=by
   cases h:ex.toks with
   |nil=>exact absurd h g.ne
   |cons _ _=>simp
  have hsub:Am.subL (tkL ts) 0 (ex.toks.length:Int)=tkL ex.toks:=by rw[show(0:Int)=((0:Nat):Int)from rfl,zcm,he,List.take_left];rfl
  obtain⟨q,m1,m2⟩:=zcR (ts:=ex.toks) (by omega) (N:=N) (by omega) (fun t ht=>hw t (by rw[he];exact List.mem_append_left _ ht));have m3:q.2=true:=m2.2 ⟨ex,g,rfl⟩;rw[hf,zf];dsimp only;rw[decide_eq_true (show(0:Int)=0 from rfl),Bool.not_true,cond_false,zkp (by rw[zq];omega),za,hsub,m1,zf,m3];cases s with
  |nil=>have hok:ok=true:=ho.2 (hi.1 rfl);rw[List.length_nil]at hlen;rw[decide_eq_false (by rw[zq];omega),cond_false];unfold zV;rw[cond_true,Bool.not_false,cond_true,decide_eq_true (show(ex.toks.length:Int)=((tkL ts).length:Int)by rw[zq];omega),hok,decide_eq_true rfl,cond_true]
  |cons t r=>
   have hok:ok=false:=Qp ho fun h=>by have:=hi.2 h;cases this
   have hg:ts[ex.toks.length]? =some t:=by rw[he,List.getElem?_append_right (Nat.le_refl _),Nat.sub_self];rfl
   have n0:(isO t [43]||isO t [45])=false:=hq t r rfl 0 (by omega);have n1:(isO t [42]||isO t [47])=false:=hq t r rfl 1 (by omega);have n2:isO t [42,42]=false:=hq t r rfl 2 (by omega);rw[Bool.or_eq_false_iff]at n0 n1;rw[List.length_cons]at hlen;rw[decide_eq_true (by rw[zq];omega),cond_true];simp only[zW hg,jH hg,tc0,tc1,tc2,tc3,tc4,tc5,qi,qI,yD,jr,zY,qW,jR,Bool.and_true,za,yF,jz,zf,n0.1,n0.2,n1.1,n1.2,n2,cond_false];unfold zV;rw[cond_true,Bool.not_false,cond_true,decide_eq_false (show¬(ex.toks.length:Int)=((tkL ts).length:Int)by rw[zq];omega),hok,decide_eq_true rfl,cond_true]
 ·have hok:ok=false:=Qp ho hn;rw[hf,zf];dsimp only;rw[decide_eq_false hx,Bool.not_false,cond_true,cond_true,decide_eq_true (show(0:Int)=0 from rfl),cond_true,hok];rfl
include hs
theorem zv0:j6 N (tkL ts)=some true:=by
 obtain⟨q,m1,m2⟩:=zcR (ts:=ts) (by omega) (N:=N) (by omega) hw;unfold j6;rw[m1,zf];rcases first_is hl hN hw with⟨ex,s,g,he,hq,hi,hc,hf⟩|⟨x,hn,hx,hf⟩
 ·have hlen:ts.length=ex.toks.length+s.length:=by rw[he,List.length_append]
  cases s with
  |nil=>
   have hIs:=hi.1 rfl;have hb:q.2=true:=m2.2 hIs;rw[List.append_nil]at he;rw[List.length_nil]at hlen;have hp:Zu N (tkL ts)=some ((nds tkO ex 0 0).map ndV,ex.lvs.map lfV,0):=by unfold Zu;rw[hf,zf];dsimp only;rw[decide_eq_true (show(0:Int)=0 from rfl),Bool.not_true,cond_false,decide_eq_false (by rw[zq];omega),cond_false]
   have hse:∀t∈ex.toks,Sh t:=fun t ht=>hs t (by rw[he];exact ht)
   have hwe:∀t∈ex.toks,Wd t:=fun t ht=>hw t (by rw[he];exact ht)
   have c1:JG N (Expr.mk ((nds tkO ex 0 0).map ndV) (ex.lvs.map lfV))=some 0:=zeb hN (zqR g) (by omega);have c2:VW N (Expr.mk ((nds tkO ex 0 0).map ndV) (ex.lvs.map lfV))=some (ex.fold calA).text:=zo2 hN g (by omega) (by omega) hse;have c3:Yk N 60 (tkL ts,0)=some (ex.fold calA):=by rw[he];exact Qo (by omega) 60 (by omega) g (by omega) (by omega) hse hwe 0 (Int.le_refl _) (by omega)
   rw[hp,zf];dsimp only;rw[hb,decide_eq_true (show(0:Int)=0 from rfl),decide_eq_true rfl,Bool.not_true,cond_false,cond_true,c1,zf,decide_eq_true (show(0:Int)=0 from rfl),Bool.not_true,cond_false,c2,zf,c3,zf,decide_eq_true rfl,Bool.not_true,cond_false];exact zrd hl hN hw ⟨fun _=>hIs,fun _=>rfl⟩
  |cons t r=>
   have hn:¬Is ts:=fun h=>by have:=hi.2 h;cases this
   have hb:q.2=false:=Qp m2 hn;rw[List.length_cons]at hlen;have hp:Zu N (tkL ts)=some ([],[],4):=by unfold Zu;rw[hf,zf];dsimp only;rw[decide_eq_true (show(0:Int)=0 from rfl),Bool.not_true,cond_false,decide_eq_true (by rw[zq];omega),cond_true]
   rw[hp,zf];dsimp only;rw[hb,decide_eq_false (show¬(4:Int)=0 by decide),decide_eq_true rfl,Bool.not_true,cond_false,cond_false];exact zrd hl hN hw ⟨fun h=>absurd h (by simp),fun h=>absurd h hn⟩
 ·have hb:q.2=false:=Qp m2 hn;have hp:Zu N (tkL ts)=some ([],[],x):=by unfold Zu;rw[hf,zf];dsimp only;rw[decide_eq_false hx,Bool.not_false,cond_true]
  rw[hp,zf];dsimp only;rw[hb,decide_eq_false hx,decide_eq_true rfl,Bool.not_true,cond_false,cond_false];exact zrd hl hN hw ⟨fun h=>absurd h (by simp),fun h=>absurd h hn⟩
theorem zxR:yM N (tkL ts)=some true:=by
 unfold yM;rw[(YA (by omega) (by omega) (by omega) hw).1,zf,JY (by omega) (by omega) hw,zf];have e:(opd ts).1=oplT ts:=rfl;rw[e];dsimp only;rw[decide_eq_true rfl,Bool.not_true,cond_false];have o:=opd_ok (ts:=ts);rw[e]at o;rcases o with⟨h1,h2,_⟩|⟨h1,h2⟩
 ·rw[h1,decide_eq_true (show(0:Int)=0 from rfl),decide_eq_true (show(0:Int)<(oplT ts:Int)by omega),decide_eq_true rfl,Bool.not_true,cond_false,cond_false];exact zv0 hl hN hw hs
 ·rw[h1,h2,decide_eq_false (show¬(4:Int)=0 by decide),decide_eq_false (show¬(0:Int)<((0:Nat):Int)by decide),decide_eq_true rfl,Bool.not_true,cond_false,Bool.not_false,cond_true,decide_eq_true (show(4:Int)=4 from rfl),Bool.not_true,cond_false];exact zv0 hl hN hw hs
end
theorem zw2{N:Nat}(hN:1003<N):qE N=some true:=by
 have hw:∀t∈([]:List Token),Wd t:=fun t ht=>by cases ht
 obtain⟨q,m1,m2⟩:=zcR (ts:=[]) (by simp) (N:=N) (by simp;omega) hw;have hb:q.2=false:=Qp m2 zvb;have m1:Jf N []=some q:=m1;have o1:Zv N []=some (0,4):=(YA (ts:=[]) (by omega) (by simp) (by simp;omega) hw).1;have o2:qx N []=some 0:=JY (ts:=[]) (by simp) (by simp;omega) hw;rcases first_is (ts:=[]) (by simp) hN hw with⟨ex,s,g,he,_⟩|⟨x,hn,hx,hf⟩
 ·have:ex.toks=[]:=by
   cases h:ex.toks with
   |nil=>rfl
   |cons a b=>rw[h]at he;cases he
  exact absurd this g.ne
 ·have hf:Z8 N []=some ([],[],0,x):=hf;have hp:Zu N []=some ([],[],x):=by unfold Zu;rw[hf,zf];dsimp only;rw[decide_eq_false hx,Bool.not_false,cond_true]
  have k2:qD N false=some true:=by unfold qD;rw[hf,zf];dsimp only;rw[decide_eq_false hx,Bool.not_false,cond_true,cond_true];rfl
  have k1:yK N=some true:=by unfold yK;rw[m1,zf,hp,zf];dsimp only;rw[hb,decide_eq_false hx,decide_eq_true rfl,Bool.not_true,cond_false,cond_false];exact k2
  unfold qE;rw[o1,zf,o2,zf];dsimp only;rw[decide_eq_true (show(0:Int)=0 from rfl),Bool.not_true,cond_false,decide_eq_false (show¬(4:Int)=0 by decide),decide_eq_false (show¬(0:Int)<0 by decide),decide_eq_true rfl,Bool.not_true,cond_false,Bool.not_false,cond_true,decide_eq_true (show(4:Int)=4 from rfl),Bool.not_true,cond_false];exact k1
theorem zrX(ts:List Token)(t:Token):tkL (ts++[t])=tkL ts++[tkV t]:=by unfold tkL;rw[List.map_append];rfl
theorem zvZ{N:Nat}(hN:1003<N){x:List AV}(hx:∀v∈x,zx9 v)(hl:x.length≤40):∀(k i:Nat)(ts:List Token),i≤x.length→x.length-i<k→ts.length=i→(∀t∈ts,Wd t)→(∀t∈ts,Sh t)→
  yy N (ya N k) x (i:Int) (tkL ts)=some true
 |k,i,ts,hi,hk,ht,hw,hs=>by
  unfold yy;by_cases h:i<x.length
  ·have hg:x[i]? =some x[i]:=List.getElem?_eq_getElem h;obtain⟨a,b,hv,ha,hb⟩:=hx x[i] (List.getElem_mem h);rw[hv]at hg;obtain⟨t,e1,e2,e3⟩:=zqn (N:=N) ha hb;have g1:=zxl hg;have g2:=zx7 hg;rw[decide_eq_true (by omega),cond_true,g2,g1];show chk (true&&true) (bnd (zeh N ⟨a,b⟩) _)=_;rw[Bool.and_self,za,e1,zf];have e:tkL ts++[.agg [.int .u8 t.Kind,.str t.Text,.int .i64 t.At_Line,.int .i64 t.At_Column,.bool t.Left]]=tkL (ts++[t]):=(zrX ts t).symm;rw[e,zw6 (by rw[zq];simp;omega),za,jo (by omega) (by omega),za];cases k with
   |zero=>omega
   |succ k=>exact zvZ hN hx hl k (i+1) (ts++[t]) (by omega) (by omega) (by simp[ht]) (fun u hu=>by
    rcases List.mem_append.1 hu with hu|hu
    ·exact hw u hu
    ·rw[List.mem_singleton.1 hu];exact e2) (fun u hu=>by
    rcases List.mem_append.1 hu with hu|hu
    ·exact hs u hu
    ·rw[List.mem_singleton.1 hu];exact e3)
  ·rw[decide_eq_false (by omega),cond_false];exact zxR (by omega) hN hw hs
theorem znx(x:List AV)(hx:∀v∈x,zx9 v):∃N,ZC N x=some true:=by
 refine⟨2000,?_⟩;unfold ZC;by_cases h:40<x.length
 ·rw[decide_eq_true (by omega),cond_true]
 ·rw[decide_eq_false (by omega),cond_false];show yz 2000 (ya 2000 1999) x 0=some true;cases x with
  |nil=>unfold yz;rw[decide_eq_false (by simp),cond_false];exact zw2 (by omega)
  |cons v r=>have:=zvZ (N:=2000) (by omega) hx (by omega) 1999 0 [] (Nat.zero_le _) (by omega) rfl (fun t ht=>by cases ht) (fun t ht=>by cases ht);unfold yy at this;unfold yz;have d:decide ((0:Int)<(((v::r).length:Nat):Int))=true:=decide_eq_true (by rw[List.length_cons];omega);rw[show(((0:Nat):Int))=(0:Int)from rfl,d,cond_true]at this;rw[d,cond_true];exact this
end Go.Proofs.C06
end
