/-
  A part of the proof of the laws.
-/
import Derived.Test.YtdkkileemeopbaaGreatDoorEa
import Derived.Test.YtdkkileemeopbaaGreatDoorUa
import Derived.Test.YtdkkileemeopbaaGreatDoorPc
section
set_option maxRecDepth 100000
namespace Go.Proofs.C06
open Go Go.RowKit Go.Vc Go.Am Go.Dg
def JI(c:UInt8):UInt8:=if c=46 then 46 else 42
def stars:uBp->uBp
 |[]=>[]
 |c::r=>if c=86 then stars r else JI c::stars r
theorem zh6(N:Nat)(c:UInt8):zf2 N (c.toNat:Int)=some (if c=86 then-1 else((JI c).toNat:Int)):=by
 unfold zf2 JI;have e86:((c.toNat:Int)=86)↔c=86:=ZB c 86 (by decide);have e46:((c.toNat:Int)=46)↔c=46:=ZB c 46 (by decide);rw[zb,zb];by_cases h:c=86
 ·rw[if_pos (e86.2 h),if_pos h]
 ·rw[if_neg (fun e=>h (e86.1 e)),if_neg h];by_cases h2:c=46
  ·rw[if_pos (e46.2 h2),if_pos h2,h2]
  ·rw[if_neg (fun e=>h2 (e46.1 e)),if_neg h2];rfl
theorem zkP(c:UInt8):(JI c).toNat<128:=by unfold JI;split<;>decide
theorem JP{N:Nat}(s:uBp)(hs:s.length<=400)(ha:∀c∈s,c.toNat<128):∀(n i:Nat)(out:uBp),i<=s.length->s.length-i<n->out.length<=401+i->
  yy N n s i out=some (out++stars (s.drop i))
 |0,i,out,_,h,_=>by omega
 |n+1,i,out,hi,h,ho=>by
  show YO N (yy N n) s i out=_;unfold YO;by_cases hlt:i<s.length
  ·have hc:=ha _ (V9 hlt);rw[show Nat.blt i s.length=true from mX hlt,cond_true,Z4 hc,zh6,zc,Zs hc,zM hlt,stars,zb];by_cases h86:s.getD i 0=86
   ·rw[if_pos h86,if_neg (by decide),if_pos h86];exact JP s hs ha n (i+1) out (by omega) (by omega) (by omega)
   ·have hl:=zkP (s.getD i 0);rw[if_neg h86,if_pos (by omega),if_neg h86,zb,if_pos (by omega),zeB (by omega) (by omega)];unfold Vn;rw[yq,uAg,za,uAT,j1,jP (by simp;omega),za,zc,JP s hs ha n (i+1) _ (by omega) (by omega) (by simp;omega),mK];rfl
  ·rw[show Nat.blt i s.length=false from Bool.eq_false_iff.2 (fun e=>hlt (mS e)),cond_false,nW (by omega)];unfold KI;rw[decide_eq_true (by omega),za,zc];simp[stars]
theorem KA{N:Nat}(hN:1000<N)(s:uBp)(hs:s.length<=400)(ha:∀c∈s,c.toNat<128):∀(n i:Nat),i<=s.length->s.length-i<n->
  yz N n s s i=some (s.take i++stars (s.drop i))
 |0,i,_,h=>by omega
 |n+1,i,hi,h=>by
  show YP N (yz N n) s s i=_;unfold YP;by_cases hlt:i<s.length
  ·have hc:=ha _ (V9 hlt);have hrl:JT ((s.getD i 0).toNat:Int)=some 1:=by unfold JT Lib.runeLen;rw[if_neg (by omega),if_pos (by omega)]
   have hg:zaH N ((s.length:Int)+4)=some []:=by
    unfold zaH;rw[decide_eq_false (by omega),cond_false,decide_eq_true (by omega),cond_true];have:Q3 ((s.length:Int)+4)=true:=by rw[show((s.length:Int)+4)=Int.ofNat (s.length+4)from rfl];unfold Q3;simp only[mX (show 1<=s.length+4 by omega),mX (show s.length+4<=281474976710656 by omega)];rfl
    rw[this,za,zc]
   have hw:Jg N (js s (i:Int)) []=some ((((js s (i:Int)).length:Nat):Int),s.take i):=by unfold Jg;have ht:js s (i:Int)=s.take i:=rfl;rw[ht,nX,jP (by rw[mH];omega),za]
   have k1:∀(rr:Int)(out:uBp),(rr= -1/\out=s.take i\/∃u:UInt8,u.toNat<128/\rr=(u.toNat:Int)/\out=s.take i++[u])->ZG N (yz N n) s (i:Int) ((s.getD i 0).toNat:Int) rr s (i+1)=some (out++stars (s.drop (i+1))):=by
    intro rr out hrr;have fin:∀out:uBp,out.length<=401->yy N N (zX s ((i:Int)+1)) 0 out=some (out++stars (s.drop (i+1))):=fun out ho=>by rw[show((i:Int)+1)=((i+1:Nat):Int)by omega,zcK];have:=JP (N:=N) (s.drop (i+1)) (by rw[mJ];omega) (fun c hc=>ha c (uBl hc)) N 0 out (by omega) (by rw[mJ];omega) (by omega);rw[this,nS]
    have hk1:zd .i64 ((i:Int)+1)=true:=zh (by omega) (by omega);have hs1:zm ((i:Int)+1) (s.length:Int) s.length=true:=zw.2 ⟨by omega,by omega,by omega⟩;unfold ZG;rw[zb,if_neg (by omega),hrl,zc,zh (by omega) (by omega),za,hg,zc,zw.2 ⟨by omega,by omega,by omega⟩,za,hw,zc];dsimp only;rcases hrr with⟨rfl,rfl⟩|⟨u,hu,rfl,rfl⟩
    ·rw[decide_eq_false (by decide),cond_false,hk1,za,hs1,za];unfold zgs;rw[zc];exact fin _ (by rw[mH];omega)
    ·rw[decide_eq_true (by omega),cond_true];unfold za6 Vt;rw[show IntKind.wrap .u32 (u.toNat:Int)=(u.toNat:Int)from zaR ⟨by show(0:Int)<=_;omega,by show _<=(4294967295:Int);omega⟩,zb,if_pos (by omega),zeB (by omega) (by omega),yq,uAg,za,uAT,j1,
      jP (by simp;omega),za,zc,zh (by simp;omega) (by simp;omega),za,zc,hk1,za,hs1,za]
     unfold zgs;rw[zc];exact fin _ (by simp;omega)
   rw[show Nat.blt i s.length=true from mX hlt,cond_true,Z4 hc,zh6,zc,Zs hc,zM hlt,stars,zb];by_cases h86:s.getD i 0=86
   ·rw[if_pos h86,if_neg (by omega),if_pos h86];exact k1 _ _ (.inl ⟨rfl,rfl⟩)
   ·rw[if_neg h86,if_neg h86];by_cases hsame:JI (s.getD i 0)=s.getD i 0
    ·rw[if_pos (by rw[hsame]),decide_eq_false (by omega),uA4,cond_true,KA hN s hs ha n (i+1) (by omega) (by omega),hsame];rw[uBn,mK];congr 2;rw[mC hlt,<-Wa hlt];rfl
    ·rw[if_neg (fun e=>hsame (UInt8.toNat_inj.1 (by omega)))];have:=k1 _ _ (.inr ⟨JI (s.getD i 0),zkP _,rfl,rfl⟩);rw[this,mK];rfl
  ·rw[show Nat.blt i s.length=false from Bool.eq_false_iff.2 (fun e=>hlt (mS e)),cond_false,nW (by omega),nF (by omega)];simp[stars]
theorem zly{N:Nat}(hN:1000<N){s:uBp}(hs:s.length<=400)(ha:∀c∈s,c.toNat<128):zbj N s=some (stars s):=by unfold zbj;have:=KA hN s hs ha N 0 (by omega) (by omega);simpa using this
def Yq(fl:UInt8)(b set:uBp):Bool:=b.all fun c=>!dig fl c||set.contains c
def flS(s:Shape):UInt8:=flo (edBody s.uC)
def XI(s:Shape):Bool:=s.uJ||Yq (flS s) (edBody s.uC) ([90]++if flS s=0 then[]else[flS s])
def WM(s:Shape)(neg:Bool)(ds:uBp)(zero:Bool):Option uBp:=if zero=true/\XI s=true then some (List.replicate s.uG.toNat 32)else if zero=true/\Yq (flS s) (edBody s.uC) [42]=true then some (stars s.uC)else zdS (X6 (flS s) neg (zG s.uC)) (jz (zB (edBody s.uC)) (flS s) neg (edBody s.uC) ⟨ds,false,0,[],-1⟩)
theorem flo_is(b:uBp):flo b=0\/flo b=36\/flo b=43\/flo b=45:=by
 unfold flo;by_cases h1:1<b.count 45
 ·rw[if_pos h1];exact .inr (.inr (.inr rfl))
 ·rw[if_neg h1];by_cases h2:1<b.count 43
  ·rw[if_pos h2];exact .inr (.inr (.inl rfl))
  ·rw[if_neg h2];by_cases h3:1<b.count 36
   ·rw[if_pos h3];exact .inr (.inl rfl)
   ·rw[if_neg h3];exact .inl rfl
theorem zog(p:uBp):(zG p).length<=2:=by
 unfold zG;split
 ·rename_i h;rcases h with h|h<;>rw[h]<;>simp
 ·simp
theorem zav(p:uBp):(edBody p).length<=p.length:=by
 unfold edBody;split
 ·rw[mH];omega
 ·exact mG _
theorem ztu{N:Nat}(hN:3000<N){s:Shape}(hp:s.uC.length<=400)(ha:∀c∈s.uC,c.toNat<128){n:Nat}(hn:s.uA=(n:Int))(h1:1<=n)(h2:n<=62)(hs1: -62<=s.uB)(hs2:s.uB<=62)(hz1:0<=s.uG)(hz2:s.uG<=1000)
  {d:Decimal} (hd:VD d) (hf:qV d n s.uB) {r:uBp} (hr:WM s d.uH (fmt n (quo (val d.uA) d.uB.toNat s.uB)) (decide (d.uA=[48]))=some r)
  (hne:∀w,jz (zB (edBody s.uC)) (flS s) d.uH (edBody s.uC) ⟨fmt n (quo (val d.uA) d.uB.toNat s.uB),false,0,[],-1⟩=some w->w.out≠[]):WQ N d s=some r:=by
 have hbl:(edBody s.uC).length<=400:=nD (zav _) hp;have htl:(zG s.uC).length<=10:=nD (zog _) (by decide);unfold WQ;rw[zts (by omega) hp,zc];obtain⟨z,hz⟩:∃z,decide (d.uA=([48]:uBp))=z:=⟨_,rfl⟩
 rw[hz]at hr⊢;have only:=fun set=>ztr (N:=N) (by omega) (t:=zG s.uC) (flS s) set hbl
 have k1:∀t:Bool,(t=true->some (stars s.uC)=some r)->(t=false->zdS (X6 (flS s) d.uH (zG s.uC)) (jz (zB (edBody s.uC)) (flS s) d.uH (edBody s.uC) ⟨fmt n (quo (val d.uA) d.uB.toNat s.uB),false,0,[],-1⟩)=some r)->Vd N t d s (zli s)=some r:=by
  intro t ht1 ht2;unfold Vd;cases t
  ·have hw:=ht2 rfl;obtain⟨w,hw1,rfl⟩:=VN hw;have hlen:(fmt n (quo (val d.uA) d.uB.toNat s.uB)).length<=1000:=by rw[zW];omega
   obtain⟨q,hq1,hq2⟩:=zp6 (N:=N) hbl htl (by omega) _ hlen hw1 (hne w hw1) 0;rw[cond_false,hn,zac hN hd h1 h2 hs1 hs2,if_pos hf,zc];show bnd (zeF N (edBody s.uC) (zG s.uC) ((flS s).toNat:Int) _ d.uH false 0 0) _=_;rw[hq1,zc,hq2]
  ·rw[cond_true,zly (by omega) hp ha,zc];exact ht1 rfl
 have k0:∀t:Bool,t=(z&&XI s)->QG N z t d s (zli s)=some r:=by
  intro t ht;unfold QG WM at*
  cases t
  ·have hb:¬(z=true/\XI s=true):=by rintro⟨e1,e2⟩;rw[e1,e2]at ht;cases ht
   rw[if_neg hb]at hr;rw[cond_false];cases z
   ·rw[cond_false];rw[if_neg (by rintro⟨e,_⟩;cases e)]at hr;exact k1 false (fun e=>by cases e) (fun _=>hr)
   ·rw[cond_true];show bnd (zh7 N (picture.mk (edBody s.uC) (zG s.uC) ((flS s).toNat:Int)) [42]) _=_;rw[only,zc];refine k1 _ (fun e=>?_) (fun e=>?_)
    ·rwa [if_pos ⟨rfl,e⟩]at hr
    ·rwa [if_neg (by rintro⟨_,e'⟩;unfold Yq at e';rw[e]at e';cases e')]at hr
  ·have hb:z=true/\XI s=true:=by simpa using ht.symm
   rw[if_pos hb]at hr;obtain⟨k,hk⟩:=uAZ hz1;rw[cond_true,hk];have:zt0 ([32].map toByte) (k:Int)=some (List.replicate k 32):=by show chk (decide ((0:Int)<=k)&&decide ((k:Int)<=140737488355328)) _=_;rw[decide_eq_true (by omega),decide_eq_true (by omega)];rfl
   rw[this,zc,<-hr,hk];rfl
 cases z
 ·rw[cond_false];exact k0 false rfl
 ·rw[cond_true];cases hbk:s.uJ with
  |true=>rw[cond_true];exact k0 true (by unfold XI;rw[hbk];rfl)
  |false=>
   rw[cond_false];have htr:ZL ([(zli s).float].map toByte) [0]=some (if flS s=0 then[]else[flS s]):=by show ZL ([((flS s).toNat:Int)].map toByte) [0]=_;rw[uAT,j1];rcases flo_is (edBody s.uC)with h|h|h|h<;>(unfold flS;rw[h];rfl)
   have hfu:zd .u8 (zli s).float=true:=yq (flS s);have hco:jh ([90]:uBp) (if flS s=0 then[]else[flS s])=true:=QN.2 (by split<;>simp);rw[hfu,uAg,za,htr,zc,hco,za];show bnd (zh7 N (picture.mk (edBody s.uC) (zG s.uC) ((flS s).toNat:Int)) _) _=_;rw[only,zc];exact k0 _ (by unfold XI;rw[hbk];rfl)
end Go.Proofs.C06
end
section
set_option maxRecDepth 100000
namespace Go.Proofs.C06
open Go Go.RowKit Go.Vc Go.Am Go.Dg
def need(fl:UInt8):Bool->uBp->Nat
 |_,[]=>0
 |fst,c::b=>if dig fl c=true then(if c=fl/\fst=false then need fl true b else need fl fst b+1)else need fl fst b
theorem zaT(fc c:UInt8)(r:Bool)(w:WS):(zN fc c r w).fst=w.fst:=by unfold zN;split<;>rfl
theorem zb3(fc fl:UInt8)(neg:Bool):∀(b:uBp)(w:WS),need fl w.fst b<=w.ds.length->∃w',jz fc fl neg b w=some w'
 |[],w,_=>⟨w,rfl⟩
 |c::b,w,h=>by
  have step:∃w1,zP fc fl neg c w=some w1/\need fl w1.fst b<=w1.ds.length:=by
   unfold need at h;unfold zP;by_cases hd:dig fl c=true
   ·rw[if_pos hd]at h⊢;unfold Yj;by_cases hf:c=fl/\w.fst=false
    ·rw[if_pos hf]at h⊢;refine⟨_,rfl,?_⟩;rw[zaT,(yV _ _ _ _).2];exact h
    ·rw[if_neg hf]at h⊢;cases hds:w.ds with
     |nil=>rw[hds]at h;simp at h
     |cons d r=>refine⟨_,rfl,?_⟩;rw[zaT,(yV _ _ _ _).2];rw[hds,mI]at h;exact Nat.le_of_succ_le_succ h
   ·rw[if_neg hd]at h⊢;by_cases h86:c=86
    ·rw[if_pos h86];exact⟨_,rfl,h⟩
    ·rw[if_neg h86];by_cases h46:c=46
     ·rw[if_pos h46];refine⟨_,rfl,?_⟩;rw[zaT,(yV _ _ _ _).2];exact h
     ·rw[if_neg h46];refine⟨_,rfl,?_⟩;rw[zaT,(yV _ _ _ _).2];exact h
  obtain⟨w1,h1,h2⟩:=step;obtain⟨w2,h3⟩:=zb3 fc fl neg b w1 h2;exact⟨w2,by unfold jz;rw[h1];exact h3⟩
theorem wrun_out(fc fl:UInt8)(neg:Bool):∀(b:uBp)(w w':WS),jz fc fl neg b w=some w'->w'.out.length+b.count 86=w.out.length+b.length\/fl=86
 |[],w,w',h=>by cases h;exact .inl rfl
 |c::b,w,w',h=>by
  unfold jz at h;split at h
  ·rename_i w1 hs;rcases wrun_out fc fl neg b w1 w' h with h2|h2
   ·by_cases hfl:fl=86
    ·exact .inr hfl
    ·left;unfold zP at hs;rw[List.count_cons,mI];split at hs
     ·rename_i hd;have:=(zku hs).1;have hc:c≠86:=fun e=>by subst e;unfold dig at hd;simp at hd;exact hfl hd.symm
      rw[show(c==86)=false by simpa using hc,if_neg (by decide)];omega
     ·split at hs
      ·rename_i hc;cases hs;subst hc;simp only[beq_self_eq_true,if_true];simp only at h2;omega
      ·rename_i hc;rw[show(c==86)=false by simpa using hc,if_neg (by decide)];split at hs
       ·cases hs;rw[(yV _ _ _ _).1]at h2;simp only at h2;omega
       ·cases hs;rw[(yV _ _ _ _).1]at h2;omega
   ·exact .inr h2
  ·cases h
theorem zhJ(fl:UInt8):∀b:uBp,need fl true b=b.countP (dig fl)
 |[]=>rfl
 |c::b=>by unfold need;rw[List.countP_cons,zhJ fl b];cases hd:dig fl c<;>simp
theorem qb(fl:UInt8):dig fl fl=true:=by unfold dig;simp
theorem zfi(fl:UInt8):∀b:uBp,need fl false b+(if b.contains fl=true then 1 else 0)=b.countP (dig fl)
 |[]=>rfl
 |c::b=>by
  unfold need;rw[List.countP_cons,uAa];by_cases hc:c=fl
  ·subst hc;rw[if_pos (qb c),if_pos ⟨rfl,rfl⟩,zhJ,qb];simp
  ·have ih:=zfi fl b;rw[show(fl==c)=false by simpa using fun e=>hc e.symm,Bool.false_or];by_cases hd:dig fl c=true
   ·rw[if_pos hd,if_neg (fun h=>hc h.1),if_pos hd];omega
   ·rw[if_neg hd,if_neg hd];omega
theorem zwN{b:uBp}(a:UInt8)(ha:a=36\/a=43\/a=45)(h:1<b.count a)(h2:∀x:UInt8,(x=43\/x=45)->x≠a->b.count x<=1):flo b=a:=by
 unfold flo;rcases ha with rfl|rfl|rfl
 ·rw[if_neg (by have:=h2 45 (.inr rfl) (by decide);omega),if_neg (by have:=h2 43 (.inl rfl) (by decide);omega),if_pos h]
 ·rw[if_neg (by have:=h2 45 (.inr rfl) (by decide);omega),if_pos h]
 ·rw[if_pos h]
theorem zta{b:uBp}(h:∀x:UInt8,(x=36\/x=43\/x=45)->b.count x<=1):flo b=0:=by unfold flo;rw[if_neg (by have:=h 45 (.inr (.inr rfl));omega),if_neg (by have:=h 43 (.inr (.inl rfl));omega),if_neg (by have:=h 36 (.inl rfl);omega)]
section
variable {sg0 : Nat} {q : uBp} {dg sc : Nat} {sn : Bool} {s1 m1 : uBp} {c : UInt8} {k m : Nat} {pt : uBp} {x : UInt8} {f : Nat} {e : uBp}
theorem zcQ(a u:UInt8)(n:Nat):(List.replicate n u).count a=if u=a then n else 0:=by rw[List.count_replicate];by_cases h:u=a<;>simp[h]
def zcy(c:UInt8)(k:Nat):Prop:=0<k/\(c=36\/c=43\/c=45)
instance(c:UInt8)(k:Nat):Decidable (zcy c k):=by unfold zcy;infer_instance
theorem EdF.two(h:EdF sg0 q dg sc sn s1 m1 c k m pt x f e)(hf:zcy c k):2<=k:=by
 rcases h.run with r|r|r|r
 ·have:=hf.1;omega
 ·rcases hf.2 with e|e|e<;>rw[r]at e<;>simp at e
 ·rcases hf.2 with e|e|e<;>rw[r]at e<;>simp at e
 ·exact r.1
theorem EdF.cnt(h:EdF sg0 q dg sc sn s1 m1 c k m pt x f e){a:UInt8}(ha:a=36\/a=43\/a=45):q.count a=s1.count a+(m1.count a+((if c=a then k else 0)+((if x=a then f else 0)+e.count a))):=by
 rw[h.eq,mY,mY,mY,mY,mY,mY,zcQ,zcQ,zcQ];have h57:(if(57:UInt8)=a then m else 0)=0:=if_neg (by rcases ha with rfl|rfl|rfl<;>decide);have hp:pt.count a=0:=by rcases h.hpt with⟨r,_⟩|⟨r,_⟩|r<;>rw[r]<;>rcases ha with rfl|rfl|rfl<;>decide
 rw[h57,hp];omega
theorem EdF.low(h:EdF sg0 q dg sc sn s1 m1 c k m pt x f e){a:UInt8}(ha:a=36\/a=43\/a=45)(hn:¬(0<k/\c=a)):q.count a<=1:=by
 rw[h.cnt ha];have h1:(if c=a then k else 0)=0:=by
  split
  ·rename_i e;rcases uAI k with h0|h0
   ·exact h0
   ·exact (hn ⟨h0,e⟩).elim
  ·rfl
 have h2:(if x=a then f else 0)=0:=by
  split
  ·rename_i e;rcases uAI f with h0|h0
   ·exact h0
   ·rcases h.fx h0 with r|⟨_,⟨r1,r2⟩|⟨_,r⟩⟩
    ·rw[e]at r;subst r;rcases ha with r|r|r<;>simp at r
    ·exact (hn ⟨r1,by rw[<-r2,e]⟩).elim
    ·rw[e]at r;rcases r with rfl|rfl<;>rcases ha with r|r|r<;>simp at r
  ·rfl
 have h3:=uAs (a:=a) (l:=s1);have h4:=uAs (a:=a) (l:=e);have hsg:=h.hsg;rw[h1,h2];rcases ha with rfl|rfl|rfl
 ·have h5:s1.count 36=0:=by rcases h.hs1 with r|r|r<;>rw[r]<;>decide
  have h6:e.count 36=0:=by rcases h.he with r|r|r<;>rw[r]<;>decide
  have h7:m1.count 36<=1:=by rcases h.hm1 with r|r<;>rw[r]<;>decide
  omega
 ·have h7:m1.count 43=0:=by rcases h.hm1 with r|r<;>rw[r]<;>decide
  omega
 ·have h7:m1.count 45=0:=by rcases h.hm1 with r|r<;>rw[r]<;>decide
  omega
theorem EdF.flo(h:EdF sg0 q dg sc sn s1 m1 c k m pt x f e):flo q=if zcy c k then c else 0:=by
 by_cases hf:zcy c k
 ·rw[if_pos hf];refine zwN c hf.2 ?_ (fun y hy hne=>h.low (by rcases hy with r|r<;>simp[r]) (fun k'=>hne k'.2.symm));rw[h.cnt hf.2,if_pos rfl];have:=h.two hf;omega
 ·rw[if_neg hf];exact zta fun y hy=>h.low hy (fun k'=>hf ⟨k'.1,by rw[k'.2];exact hy⟩)
theorem zaA(p:UInt8->Bool)(u:UInt8)(n:Nat):(List.replicate n u).countP p=if p u=true then n else 0:=by rw[List.countP_replicate]
theorem EdF.need(h:EdF sg0 q dg sc sn s1 m1 c k m pt x f e):need (C06.flo q) false q=dg:=by
 have hfl:=h.flo;obtain⟨fl,hfd⟩:∃fl,C06.flo q=fl:=⟨_,rfl⟩
 rw[hfd]at hfl⊢;have hn:=zfi fl q;have hsg:=h.hsg;have key:q.countP (dig fl)=k+m+f:=by
  rw[h.eq,uBj,uBj,uBj,uBj,uBj,uBj,zaA,zaA,zaA];have e1:s1.countP (dig fl)=0:=by
   rw[hfl];by_cases hf:zcy c k
   ·rw[if_pos hf];rcases hf.2 with r|r|r
    ·rw[r];rcases h.hs1 with r|r|r<;>rw[r]<;>decide
    ·rw[if_pos ⟨hf.1,.inl r⟩]at hsg;rw[uAc (show s1.length=0 by omega)];rfl
    ·rw[if_pos ⟨hf.1,.inr r⟩]at hsg;rw[uAc (show s1.length=0 by omega)];rfl
   ·rw[if_neg hf];rcases h.hs1 with r|r|r<;>rw[r]<;>decide
  have e2:e.countP (dig fl)=0:=by
   rw[hfl];by_cases hf:zcy c k
   ·rw[if_pos hf];rcases hf.2 with r|r|r
    ·rw[r];rcases h.he with r|r|r<;>rw[r]<;>decide
    ·rw[if_pos ⟨hf.1,.inl r⟩]at hsg;rw[uAc (show e.length=0 by omega)];rfl
    ·rw[if_pos ⟨hf.1,.inr r⟩]at hsg;rw[uAc (show e.length=0 by omega)];rfl
   ·rw[if_neg hf];rcases h.he with r|r|r<;>rw[r]<;>decide
  have e3:m1.countP (dig fl)=0:=by
   rw[hfl];rcases h.hm1 with r|r
   ·rw[r];rfl
   ·by_cases hf:zcy c k
    ·rw[if_pos hf,r];rcases hf.2 with r2|r2|r2
     ·exact (h.dol r hf.1 r2).elim
     ·rw[r2];decide
     ·rw[r2];decide
    ·rw[if_neg hf,r];decide
  have e4:pt.countP (dig fl)=0:=by
   have:∀y:UInt8,(y=36\/y=43\/y=45\/y=0)->pt.countP (dig y)=0:=fun y hy=>by rcases h.hpt with⟨r,_⟩|⟨r,_⟩|r<;>rw[r]<;>rcases hy with rfl|rfl|rfl|rfl<;>decide
   refine this fl ?_;rw[hfl];by_cases hf:zcy c k
   ·rw[if_pos hf];rcases hf.2 with r|r|r<;>simp[r]
   ·rw[if_neg hf];simp
  have e5:(if dig fl c=true then k else 0)=k:=by
   rcases uAI k with h0|h0
   ·rw[h0];split<;>rfl
   ·refine if_pos ?_;rcases h.run with r|r|r|r
    ·omega
    ·rw[r];unfold dig;simp
    ·rw[r];unfold dig;simp
    ·rw[hfl,if_pos ⟨h0,r.2⟩];exact qb c
  have e6:(if dig fl 57=true then m else 0)=m:=if_pos (by unfold dig;simp);have e7:(if dig fl x=true then f else 0)=f:=by
   rcases uAI f with h0|h0
   ·rw[h0];split<;>rfl
   ·refine if_pos ?_;rcases h.fx h0 with r|⟨_,⟨r1,r2⟩|⟨_,r⟩⟩
    ·rw[r];unfold dig;simp
    ·rcases h.run with r|r|r|r
     ·omega
     ·rw[r2,r];unfold dig;simp
     ·rw[r2,r];unfold dig;simp
     ·rw[r2,hfl,if_pos ⟨r1,r.2⟩];exact qb c
    ·rcases r with r|r<;>(rw[r];unfold dig;simp)
  rw[e1,e2,e3,e4,e5,e6,e7];omega
 rw[key]at hn;have hdg:=h.hdg;by_cases hf:zcy c k
 ·have hdg':dg=k-1+m+f:=by rw[hdg,if_pos (show 0<k/\(c=36\/c=43\/c=45)from hf)]
  have hin:q.contains fl=true:=by
   rw[hfl,if_pos hf];have:=h.cnt hf.2;rw[if_pos rfl]at this;have h2:=h.two hf;have:0<q.count c:=by omega
   simpa using List.count_pos_iff.1 this
  rw[hin,if_pos rfl]at hn;have:=hf.1;omega
 ·have hdg':dg=k+m+f:=by rw[hdg,if_neg (show¬(0<k/\(c=36\/c=43\/c=45))from hf)]
  have hin:¬q.contains fl=true:=by
   rw[hfl,if_neg hf];intro h0;have h0:(0:UInt8)∈q:=by simpa using h0
   have hall:∀y∈q,y≠0:=by
    intro y hy;rw[h.eq]at hy;simp only[mO,List.mem_replicate]at hy;rcases hy with hy|hy|hy|hy|hy|hy|hy
    ·rcases h.hs1 with r|r|r<;>rw[r]at hy<;>simp at hy<;>rw[hy]<;>decide
    ·rcases h.hm1 with r|r<;>rw[r]at hy<;>simp at hy<;>rw[hy]<;>decide
    ·rcases h.run with r|r|r|r
     ·omega
     ·rw[hy.2,r];decide
     ·rw[hy.2,r];decide
     ·rw[hy.2];rcases r.2 with r|r|r<;>rw[r]<;>decide
    ·rw[hy.2];decide
    ·rcases h.hpt with⟨r,_⟩|⟨r,_⟩|r<;>rw[r]at hy<;>simp at hy<;>rw[hy]<;>decide
    ·have hf0:0<f:=by omega
     rcases h.fx hf0 with r|⟨_,⟨r1,r2⟩|⟨_,r⟩⟩
     ·rw[hy.2,r];decide
     ·rcases h.run with r|r|r|r
      ·omega
      ·rw[hy.2,r2,r];decide
      ·rw[hy.2,r2,r];decide
      ·rw[hy.2,r2];rcases r.2 with r|r|r<;>rw[r]<;>decide
     ·rw[hy.2];rcases r with r|r<;>rw[r]<;>decide
    ·rcases h.he with r|r|r<;>rw[r]at hy<;>simp at hy<;>rw[hy]<;>decide
   exact hall 0 h0 rfl
  rw[if_neg hin]at hn;omega
end
theorem Vh{b:uBp}{a:UInt8}(ha:j4 a=false):(noIns b).count a=b.count a:=by unfold noIns;rw[List.count_filter (by rw[ha];rfl)]
theorem zcF(b:uBp):flo (noIns b)=flo b:=by unfold flo;rw[Vh (by rfl),Vh (by rfl),Vh (by rfl)]
theorem Xa{fl:UInt8}(hf:fl=0\/fl=36\/fl=43\/fl=45):∀(fst:Bool)(b:uBp),need fl fst (noIns b)=need fl fst b
 |fst,[]=>rfl
 |fst,c::b=>by
  rw[JO];cases hi:j4 c with
  |true=>
   rw[if_pos rfl,Xa hf fst b];have hd:dig fl c=false:=by
    have:c=66\/c=48\/c=47\/c=44:=by unfold j4 at hi;simpa[List.contains_cons]using hi
    rcases hf with rfl|rfl|rfl|rfl<;>rcases this with rfl|rfl|rfl|rfl<;>decide
   show _=if dig fl c=true then _ else _
   rw[hd,if_neg (by decide)]
  |false=>rw[if_neg (by decide)];unfold need;rw[Xa hf true b,Xa hf fst b]
theorem K6{p:uBp}{d cc:Nat}{sn:Bool}(h:edS p=some (d,cc,sn)):need (flo (edBody p)) false (edBody p)=d:=by obtain⟨s1,m1,c,k,m,pt,x,f,e,hE⟩:=K7 h;have:=hE.need;rwa [zcF,Xa (flo_is _)]at this
end Go.Proofs.C06
end
section
set_option maxRecDepth 100000
namespace Go.Proofs.C06
open Go Go.RowKit Go.Vc Go.Am Go.Dg
structure ES(s:Shape)(n sc:Nat)(sg:Bool):Prop where
 ed:edS s.uC=some (n,sc,sg)
 dig:s.uA=(n:Int)
 scl:s.uB=(sc:Int)
 sgn:s.uE=sg
 n1:1<=n
 n18:n<=18
 scn:sc<=n
 siz:s.uG=(szN s.uC:Int)
 len:s.uC.length<=256
 ne:s.uC≠[]
 sy:∀c∈s.uC,syms.contains c=true
 cat:s.uD=5
theorem zoi{p:uBp}{d c:Nat}{sg:Bool}(h:edS p=some (d,c,sg)):1<=d/\c<=d:=by obtain⟨s1,m1,c',k,m,pt,x,f,e,hh⟩:=K7 h;have h1:=hh.hdg;have h2:=hh.hsc;have h3:=hh.pos;omega
theorem zuF{p:uBp}{sh:Shape}(h:parS p=(sh,0))(h5:sh.uD=5):∃d c sg,edS p=some (d,c,sg)/\sh=qf p d c sg/\d<=18:=by
 unfold parS at h;split at h
 ·rename_i x hx;cases h;unfold zgO at hx;split at hx
  ·cases hx;cases h5
  ·split at hx
   ·cases hx
   ·split at hx
    ·cases hx;cases h5
    ·split at hx
     ·cases hx;cases h5
     ·cases hx
 ·split at h
  ·unfold zfp at h;split at h
   ·cases h
   ·cases h;cases h5
  ·split at h
   ·rename_i d sc sg he;unfold zfp at h;split at h
    ·cases h
    ·rename_i hl;cases h;exact⟨d,sc,sg,he,rfl,by omega⟩
   ·cases h
theorem zpI{s:Shape}(h:chkV s=0)(h5:s.uD=5):∃n sc sg,ES s n sc sg:=by
 unfold chkV at h;by_cases hE:ZC s=0
 ·rw[if_neg (fun h=>h hE),if_neg (by omega)]at h;unfold zfj at h;by_cases h1:(yd s.uC).2=0
  ·rw[if_neg (fun h=>h h1)]at h;split at h
   ·cases h
   ·rename_i hpic;have hpic:(yd s.uC).1.uC=s.uC:=Classical.byContradiction fun hne=>hpic hne
    obtain⟨t1,t2,t3⟩:=W8 h;have t1:=of_decide_eq_false t1;have hc:(yd s.uC).1.uD=s.uD:=Classical.byContradiction fun hne=>t1 (.inl hne)
    have hd:(yd s.uC).1.uA=s.uA:=Classical.byContradiction fun hne=>t1 (.inr (.inl hne))
    have hs:(yd s.uC).1.uB=s.uB:=Classical.byContradiction fun hne=>t1 (.inr (.inr (.inl hne)))
    have hg:(yd s.uC).1.uE=s.uE:=Classical.byContradiction fun hne=>t1 (.inr (.inr (.inr hne)))
    unfold yd at h1 hc hd hs hg hpic;clear t1 h;obtain⟨p,e,hX⟩:∃p e,exR 0 [] (items s.uC)=(p,e):=⟨_,_,rfl⟩
    rw[hX]at h1 hc hd hs hg hpic;dsimp only at h1 hc hd hs hg hpic;by_cases hx:e=0
    ·rw[if_pos hx]at h1 hc hd hs hg hpic;obtain⟨g1,g2,g3⟩:=zl1 hX hx;obtain⟨sh,e',hY⟩:∃sh e',parS p=(sh,e'):=⟨_,_,rfl⟩
     rw[hY]at h1 hc hd hs hg hpic;dsimp only at h1 hc hd hs hg hpic;rw[h1]at hY;obtain⟨d,c,sg,e1,e2,e3⟩:=zuF hY (hc.trans h5);rw[e2]at hpic hd hs hg;have hpic:p=s.uC:=hpic;rw[hpic]at g1 g2 g3 e1;obtain⟨b1,b2⟩:=zoi e1;refine⟨d,c,sg,⟨e1,hd.symm,hs.symm,hg.symm,b1,e3,b2,?_,g2,g1,g3,h5⟩⟩;rw[t3];unfold sizeV;rw[if_neg (by omega),if_pos (by omega)]
    ·rw[if_neg hx]at h1;exact absurd h1 hx
  ·rw[if_pos h1]at h;exact absurd h h1
 ·rw[if_pos hE]at h;exact absurd h hE
theorem ztI{c:UInt8}{p:uBp}(h:∃x∈p,x≠c):p.count c<p.length:=by
 obtain⟨x,hx,hne⟩:=h;rcases uAS (p.count c) p.length with h|h
 ·exact h
 ·have:=uAs (a:=c) (l:=p);have e:p.count c=p.length:=by omega
  exact absurd (List.count_eq_length.1 e x hx) (fun e=>hne e.symm)
theorem zsD{fl:UInt8}(hf:fl≠86):∀(f:Bool)(b:uBp),(∀x∈b,x=86)->need fl f b=0
 |_,[],_=>rfl
 |f,c::b,h=>by have hc:=h c (by simp);subst hc;unfold need;rw[if_neg (by unfold dig;simp;exact fun e=>hf e.symm),zsD hf f b (fun x hx=>h x (by simp[hx]))]
theorem KZ(b:uBp):flo b≠86:=by rcases flo_is b with h|h|h|h<;>rw[h]<;>decide
def gD(neg:Bool)(q sc:Nat):Decimal:=yS (canon neg q sc)
theorem zs7{neg:Bool}{q sc n:Nat}(hn:n<=62)(hn1:1<=n)(hq:q<10^n)(hs:sc<=62):VD (gD neg q sc):=
 VD.of (nD (yi hn1 hq) hn) (nD (zY neg q sc) hs)
theorem zvO(neg:Bool)(q sc:Nat):(gD neg q sc).uB.toNat=(canon neg q sc).2.2:=by show(((canon neg q sc).2.2:Nat):Int).toNat=_;omega
theorem zjB(neg:Bool)(q:Nat){sc:Nat}(hs:sc<=62):val (gD neg q sc).uA*10^(62+(sc:Int)).toNat=q*10^(62+(gD neg q sc).uB.toNat):=by rw[zvO];show val (canon neg q sc).2.1*_=_;have h:=zcR neg q sc;rw[show(62+(sc:Int)).toNat=sc+62 by omega,uAu,<-nL,h,nL,<-uAu,uAq]
theorem zu2{neg:Bool}{q n sc:Nat}(hs:sc<=62)(hq:q<10^n):qV (gD neg q sc) n sc/\quo (val (gD neg q sc).uA) (gD neg q sc).uB.toNat sc=q:=by
 have hS:(gD neg q sc).uB.toNat<=62:=by rw[zvO];exact nD (zY neg q sc) hs
 have hg:=zjB neg q hs;exact⟨(J2 hS (by omega) (by omega)).2 ⟨q,hq,hg⟩,ze8 hS (by omega) (by omega) hg⟩
theorem zu1(neg:Bool)(q sc:Nat):decide ((gD neg q sc).uA=[48])=decide (q=0):=by
 rw[decide_eq_decide];constructor
 ·intro h;refine(zgf neg q sc).1 ?_;show val (gD neg q sc).uA=0;rw[h];rfl
 ·rintro rfl;unfold gD;rw[jy];rfl
theorem zjA(neg:Bool)(q sc:Nat):(gD neg q sc).uH=(neg&&decide (q≠0)):=zgg neg q sc
def edT(s:Shape)(n:Nat)(neg:Bool)(q:Nat):Option uBp:=WM s (neg&&decide (q≠0)) (fmt n q) (decide (q=0))
theorem zof{s:Shape}{n sc:Nat}{sg:Bool}(h:ES s n sc sg)(neg:Bool){ds:uBp}(hl:ds.length=n)(zero:Bool):
  (∃r,WM s neg ds zero=some r)/\∀w,jz (zB (edBody s.uC)) (flS s) neg (edBody s.uC) ⟨ds,false,0,[],-1⟩=some w->w.out≠[]:=by
 have hn:=K6 h.ed;obtain⟨w,hw⟩:=zb3 (zB (edBody s.uC)) (flS s) neg (edBody s.uC) ⟨ds,false,0,[],-1⟩ (by show need (flo _) false _<=ds.length;omega);constructor
 ·unfold WM;rw[hw];split
  ·exact⟨_,rfl⟩
  ·split
   ·exact⟨_,rfl⟩
   ·exact⟨_,rfl⟩
 ·intro w' hw';rcases wrun_out _ _ _ _ _ _ hw' with h1|h1
  ·intro e;rw[e]at h1;have h2:(edBody s.uC).count 86<(edBody s.uC).length:=by refine ztI (Classical.byContradiction fun hne=>?_);have:=zsD (KZ (edBody s.uC)) false (edBody s.uC) (fun x hx=>Classical.byContradiction fun he=>hne ⟨x,hx,he⟩);have:=h.n1;omega
   have h1:0+(edBody s.uC).count 86=0+(edBody s.uC).length:=h1;omega
  ·exact absurd h1 (KZ _)
theorem zoh{N:Nat}(hN:3000<N){s:Shape}{n sc:Nat}{sg:Bool}(h:ES s n sc sg)(neg:Bool){q:Nat}(hq:q<10^n):∃r,edT s n neg q=some r/\WQ N (gD neg q sc) s=some r:=by
 have h18:=h.n18;have h1:=h.n1;have h2:=h.scn;obtain⟨⟨r,hr⟩,hw⟩:=zof h (neg&&decide (q≠0)) (zW n q) (decide (q=0));obtain⟨f1,f2⟩:=zu2 (neg:=neg) (n:=n) (sc:=sc) (by omega) hq;refine⟨r,hr,ztu hN (by have:=h.len;omega) (fun c hc=>zhl (h.sy c hc)) h.dig h1 (by omega) (by rw[h.scl];omega) (by rw[h.scl];omega) (by rw[h.siz];omega) ?_ (zs7 (n:=n) (by omega) h1 hq (by omega)) ?_ ?_ ?_⟩
 ·rw[h.siz];have:=h.len;unfold szN;omega
 ·rw[h.scl];exact f1
 ·rw[h.scl,f2,zjA,zu1];exact hr
 ·rw[h.scl,f2,zjA];exact hw
theorem zhE{v n:Nat}{l:uBp}(hv:v<=val l)(hd:Digs l)(hl:l.length<=n):v<10^n:=
 Nat.lt_of_le_of_lt hv (uAJ (j9 hd) (nR (by decide) hl))
def QK(d:Decimal)(sc:Nat):Decimal:=gD d.uH (val d.uA/10^(d.uB.toNat-sc)*10^(d.uB.toNat-sc)) d.uB.toNat
theorem zrn{N:Nat}(hN:3000<N){d:Decimal}(hd:VD d){sc:Nat}(hs:sc<=62):∃t,zmj N d (sc:Int)=some (QK d sc,t,0):=by
 obtain⟨x,e,h1,h2,h3⟩:=zj0 hN hd (s:=(sc:Int)) (by omega) (by omega);have hf:=hd.form;obtain⟨g1,g2,g3,g4,g5,_⟩:=hd;refine⟨decide (val d.uA%10^(d.uB-(sc:Int)).toNat=0),?_⟩;rw[h1];by_cases h:d.uB<=(sc:Int)
 ·obtain⟨rfl,rfl⟩:=h2 h;unfold QK gD;rw[show x.uB.toNat-sc=0 by omega,nH,Nat.div_one,mQ,hf]
 ·obtain⟨m,hm,hx⟩:=h3 (by omega);have ek:(d.uB-(sc:Int)).toNat=d.uB.toNat-sc:=by omega
  rw[ek]at hm;have hv:val (d.uA.take (d.uA.length-m)++List.replicate m 48)=val d.uA/10^(d.uB.toNat-sc)*10^(d.uB.toNat-sc):=by
   rw[yG,(jD g2 (by omega)).1];rcases uAS d.uA.length (d.uB.toNat-sc)with hlt|hge
   ·have hm':m=d.uA.length:=by omega
    rw[hm',uA6 (j9 g2),uA6 (zhE (mG _) g2 (by omega)),uAR,uAR]
   ·have hm':m=d.uB.toNat-sc:=by omega
    rw[hm']
  have e0:(-d.uB).toNat=0:=by omega
  have hn:nrm d.uH (d.uA.take (d.uA.length-m)++List.replicate m 48) d.uB=(QK d sc,0):=by
   rw[zag,hv,e0,nH,mQ]
   ·rfl
   ·rw[hv,e0,nH,mQ];refine yi (by decide) (zhE (Nat.div_mul_le_self _ _) g2 g3)
   ·exact nD (zY _ _ _) (by omega)
  rw[hn]at hx;cases hx;rfl
theorem ztH{d:Decimal}(hd:VD d){sc:Nat}(hs:sc<=62):VD (QK d sc)/\exact (val (QK d sc).uA) (QK d sc).uB.toNat sc/\quo (val (QK d sc).uA) (QK d sc).uB.toNat sc=quo (val d.uA) d.uB.toNat sc:=by
 obtain⟨g1,g2,g3,g4,g5,_⟩:=hd;obtain⟨S,hS⟩:∃S,S=d.uB.toNat:=⟨_,rfl⟩
 obtain⟨v,hv⟩:∃v,v=val d.uA:=⟨_,rfl⟩
 have hS62:S<=62:=by omega
 have hvd:VD (QK d sc):=VD.of (yi (by decide) (zhE (Nat.div_mul_le_self _ _) g2 g3)) (nD (zY _ _ _) (by omega));have hg:=zjB d.uH (v/10^(S-sc)*10^(S-sc)) hS62;have hc:QK d sc=gD d.uH (v/10^(S-sc)*10^(S-sc)) S:=by rw[hS,hv];rfl
 rw[<-hc]at hg;have key:val (QK d sc).uA*10^(62+(sc:Int)).toNat=quo v S sc*10^(62+(QK d sc).uB.toNat):=by
  refine uAt (pow_pos S) ?_;have e1:10^(62+(sc:Int)).toNat*10^S=10^(62+(S:Int)).toNat*10^sc:=by rw[<-uAu,<-uAu];congr 1;omega
  rw[nL,e1,<-nL,hg,nL,uA7 (10^(62+_)),<-nL,nL (quo v S sc),uA7 (10^(62+_)) (10^S),<-nL];congr 1;unfold quo;rw[show((S:Int)-(sc:Int)).toNat=S-sc by omega,show((sc:Int)-(S:Int)).toNat=sc-S by omega];rcases Nat.le_total S sc with h|h
  ·rw[show S-sc=0 by omega,nH,Nat.div_one,Nat.div_one,mQ,nL,<-uAu,show sc-S+S=sc by omega]
  ·rw[show sc-S=0 by omega,nH,mQ,nL,<-uAu,show S-sc+sc=S by omega]
 have hS':(QK d sc).uB.toNat<=62:=by have:=hvd.2.2.2.2.1;omega
 rw[<-hS,<-hv];exact⟨hvd,((J2 (n:=quo v S sc) hS' (by omega) (by omega)).2 ⟨_,KF _,key⟩).1,ze8 hS' (by omega) (by omega) key⟩
theorem zuB{N:Nat}(hN:3000<N){d:Decimal}(hd:VD d){n sc:Nat}(h1:1<=n)(h18:n<=62)(hs:sc<=62)(he:exact (val d.uA) d.uB.toNat sc):
  zk6 N d (n:Int) (sc:Int)=some (gD d.uH (quo (val d.uA) d.uB.toNat sc%10^n) sc,0):=by
 obtain⟨t,e1,e2,e3,e4,e5⟩:=(VK hN hd (n:=n) (s:=sc) (by omega) (by omega) (by omega)).1 he;have hl:d.uA.length<=1000:=by have:=hd.2.2.1;omega
 unfold zk6;rw[zcj hN hl h1 h18 (by omega) (by omega),if_pos hd,zc,zg,if_pos rfl,e1,zc];dsimp only;have hin:zm ((t.length:Int)-(n:Int)) (t.length:Int) t.length=true:=by unfold zm;simp<;>omega
 have hv:val (t.drop (t.length-n))=quo (val d.uA) d.uB.toNat sc%10^n:=by rw[(jD e2 e4).2,e3]
 have hlt:quo (val d.uA) d.uB.toNat sc%10^n<10^n:=uBa _ (pow_pos n);have hne:t.drop (t.length-n)≠[]:=by intro h;have:=congrArg List.length h;rw[mJ,uAX]at this;omega
 have e0:(-(sc:Int)).toNat=0:=by omega
 rw[uAb,cond_false,zh (by omega) (by omega),za,hin,za,Wg _ e4,zbQ hN _ (e2.drop _) hne (by rw[mJ];omega) (by omega) (by omega),zc,zag,hv,e0,nH,mQ,mP]
 ·rfl
 ·rw[hv,e0,nH,mQ];exact nD (yi h1 hlt) h18
 ·exact nD (zY _ _ _) (by omega)
def Z7(d:Decimal)(n sc:Nat):Nat:=quo (val d.uA) d.uB.toNat sc%10^n
theorem zt9{N:Nat}(hN:3000<N){s:Shape}{n sc:Nat}{sg:Bool}(h:ES s n sc sg)(hc:chkV s=0){d:Decimal}(hd:VD d):
  ∃r,edT s n d.uH (Z7 d n sc)=some r/\zp1 N d s=some (r,0):=by
 have h18:=h.n18;have h1:=h.n1;have h2:=h.scn;have hlt:Z7 d n sc<10^n:=uBa _ (pow_pos n);obtain⟨c1,c2,c3⟩:=ztH hd (sc:=sc) (by omega);have hn:(QK d sc).uH=d.uH\/quo (val (QK d sc).uA) (QK d sc).uB.toNat sc=0:=by
  have e:(QK d sc).uH=_:=zjA _ _ _;by_cases h0:val d.uA/10^(d.uB.toNat-sc)*10^(d.uB.toNat-sc)=0
  ·right;have:val (QK d sc).uA=0:=by unfold QK;rw[h0];exact (zgf _ _ _).2 rfl
   unfold quo;rw[this,uAR,Nat.zero_div]
  ·left;rw[e,decide_eq_true h0,uAg]
 have hg:gD (QK d sc).uH (Z7 d n sc) sc=gD d.uH (Z7 d n sc) sc:=by
  rcases hn with e|e
  ·rw[e]
  ·have:Z7 d n sc=0:=by unfold Z7;rw[<-c3,e,Nat.zero_mod]
   rw[this];unfold gD;rw[jy,jy]
 obtain⟨r,e1,e2⟩:=zoh hN h d.uH hlt;refine⟨r,e1,?_⟩;obtain⟨t,ht⟩:=zrn hN hd (sc:=sc) (by omega);have hk:XZ s 5=0:=by unfold XZ;rw[if_neg (fun e=>e hc),if_neg (fun e=>e h.cat)]
 unfold zp1;rw[zf4 (by omega) (by have:=h.len;omega),hk,zc,zg,if_pos rfl,h.scl,ht,zc];dsimp only;rw[zg,if_pos rfl,h.dig,zuB hN c1 h1 (by omega) (by omega) c2,zc];dsimp only;rw[zg,if_pos rfl,c3,show quo (val d.uA) d.uB.toNat (sc:Int)%10^n=Z7 d n sc from rfl,hg,e2,zc,clip_is,zc]
end Go.Proofs.C06
end
