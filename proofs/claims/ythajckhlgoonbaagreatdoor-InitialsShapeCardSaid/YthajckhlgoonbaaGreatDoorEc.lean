/-
  A part of the proof of the laws.
-/
import Derived.Test.YthajckhlgoonbaaGreatDoorEa
import Derived.Test.YthajckhlgoonbaaGreatDoorUa
import Derived.Test.YthajckhlgoonbaaGreatDoorPc
section
set_option maxRecDepth 100000
namespace Go.Proofs.C06
open Go Go.RowKit Go.Vc Go.Am Go.Dg
def Yj(c:UInt8):UInt8:=if c=46 then 46 else 42
def jf:uBH->uBH
 |[]=>[]
 |c::r=>if c=86 then jf r else Yj c::jf r
theorem zhW(N:Nat)(c:UInt8):zfU N (c.toNat:Int)=some (if c=86 then-1 else((Yj c).toNat:Int)):=by
 unfold zfU Yj;have e86:((c.toNat:Int)=86)↔c=86:=Zn c 86 (by decide);have e46:((c.toNat:Int)=46)↔c=46:=Zn c 46 (by decide);rw[zb,zb];by_cases h:c=86
 ·rw[if_pos (e86.2 h),if_pos h]
 ·rw[if_neg (fun e=>h (e86.1 e)),if_neg h];by_cases h2:c=46
  ·rw[if_pos (e46.2 h2),if_pos h2,h2]
  ·rw[if_neg (fun e=>h2 (e46.1 e)),if_neg h2];rfl
theorem zkD(c:UInt8):(Yj c).toNat<128:=by unfold Yj;split<;>decide
theorem JS{N:Nat}(s:uBH)(hs:s.length<=400)(ha:∀c∈s,c.toNat<128):∀(n i:Nat)(out:uBH),i<=s.length->s.length-i<n->out.length<=401+i->
  yz N n s i out=some (out++jf (s.drop i))
 |0,i,out,_,h,_=>by omega
 |n+1,i,out,hi,h,ho=>by
  show YP N (yz N n) s i out=_;unfold YP;by_cases hlt:i<s.length
  ·have hc:=ha _ (VX hlt);rw[show Nat.blt i s.length=true from nT hlt,cond_true,Jf hc,zhW,zc,ZD hc,zN hlt,jf,zb];by_cases h86:s.getD i 0=86
   ·rw[if_pos h86,if_neg (by decide),if_pos h86];exact JS s hs ha n (i+1) out (by omega) (by omega) (by omega)
   ·have hl:=zkD (s.getD i 0);rw[if_neg h86,if_pos (by omega),if_neg h86,zb,if_pos (by omega),zeq (by omega) (by omega)];unfold Vi;rw[jO,uAL,za,uBa,jL,jT (by simp;omega),za,zc,JS s hs ha n (i+1) _ (by omega) (by omega) (by simp;omega),nI];rfl
  ·rw[show Nat.blt i s.length=false from Bool.eq_false_iff.2 (fun e=>hlt (nN e)),cond_false,uAm (by omega)];unfold KK;rw[decide_eq_true (by omega),za,zc];simp[jf]
theorem KE{N:Nat}(hN:1000<N)(s:uBH)(hs:s.length<=400)(ha:∀c∈s,c.toNat<128):∀(n i:Nat),i<=s.length->s.length-i<n->
  yA N n s s i=some (s.take i++jf (s.drop i))
 |0,i,_,h=>by omega
 |n+1,i,hi,h=>by
  show YQ N (yA N n) s s i=_;unfold YQ;by_cases hlt:i<s.length
  ·have hc:=ha _ (VX hlt);have hrl:JY ((s.getD i 0).toNat:Int)=some 1:=by unfold JY Lib.runeLen;rw[if_neg (by omega),if_pos (by omega)]
   have hg:zar N ((s.length:Int)+4)=some []:=by
    unfold zar;rw[decide_eq_false (by omega),cond_false,decide_eq_true (by omega),cond_true];have:Q8 ((s.length:Int)+4)=true:=by rw[show((s.length:Int)+4)=Int.ofNat (s.length+4)from rfl];unfold Q8;simp only[nT (show 1<=s.length+4 by omega),nT (show s.length+4<=281474976710656 by omega)];rfl
    rw[this,za,zc]
   have hw:Jo N (jC s (i:Int)) []=some ((((jC s (i:Int)).length:Nat):Int),s.take i):=by unfold Jo;have ht:jC s (i:Int)=s.take i:=rfl;rw[ht,uAu,jT (by rw[nA];omega),za]
   have k1:∀(rr:Int)(out:uBH),(rr= -1/\out=s.take i\/∃u:UInt8,u.toNat<128/\rr=(u.toNat:Int)/\out=s.take i++[u])->ZQ N (yA N n) s (i:Int) ((s.getD i 0).toNat:Int) rr s (i+1)=some (out++jf (s.drop (i+1))):=by
    intro rr out hrr;have fin:∀out:uBH,out.length<=401->yz N N (zZ s ((i:Int)+1)) 0 out=some (out++jf (s.drop (i+1))):=fun out ho=>by rw[show((i:Int)+1)=((i+1:Nat):Int)by omega,zcs];have:=JS (N:=N) (s.drop (i+1)) (by rw[nD];omega) (fun c hc=>ha c (uBF hc)) N 0 out (by omega) (by rw[nD];omega) (by omega);rw[this,uAk]
    have hk1:ze .i64 ((i:Int)+1)=true:=zk (by omega) (by omega);have hs1:zm ((i:Int)+1) (s.length:Int) s.length=true:=zx.2 ⟨by omega,by omega,by omega⟩;unfold ZQ;rw[zb,if_neg (by omega),hrl,zc,zk (by omega) (by omega),za,hg,zc,zx.2 ⟨by omega,by omega,by omega⟩,za,hw,zc];dsimp only;rcases hrr with⟨rfl,rfl⟩|⟨u,hu,rfl,rfl⟩
    ·rw[decide_eq_false (by decide),cond_false,hk1,za,hs1,za];unfold zgi;rw[zc];exact fin _ (by rw[nA];omega)
    ·rw[decide_eq_true (by omega),cond_true];unfold zaQ Vn;rw[show IntKind.wrap .u32 (u.toNat:Int)=(u.toNat:Int)from zax ⟨by show(0:Int)<=_;omega,by show _<=(4294967295:Int);omega⟩,zb,if_pos (by omega),zeq (by omega) (by omega),jO,uAL,za,uBa,jL,
      jT (by simp;omega),za,zc,zk (by simp;omega) (by simp;omega),za,zc,hk1,za,hs1,za]
     unfold zgi;rw[zc];exact fin _ (by simp;omega)
   rw[show Nat.blt i s.length=true from nT hlt,cond_true,Jf hc,zhW,zc,ZD hc,zN hlt,jf,zb];by_cases h86:s.getD i 0=86
   ·rw[if_pos h86,if_neg (by omega),if_pos h86];exact k1 _ _ (.inl ⟨rfl,rfl⟩)
   ·rw[if_neg h86,if_neg h86];by_cases hsame:Yj (s.getD i 0)=s.getD i 0
    ·rw[if_pos (by rw[hsame]),decide_eq_false (by omega),uA7,cond_true,KE hN s hs ha n (i+1) (by omega) (by omega),hsame];rw[uBv,nI];congr 2;rw[mW hlt,<-VY hlt];rfl
    ·rw[if_neg (fun e=>hsame (UInt8.toNat_inj.1 (by omega)))];have:=k1 _ _ (.inr ⟨Yj (s.getD i 0),zkD _,rfl,rfl⟩);rw[this,nI];rfl
  ·rw[show Nat.blt i s.length=false from Bool.eq_false_iff.2 (fun e=>hlt (nN e)),cond_false,uAm (by omega),uAh (by omega)];simp[jf]
theorem zlh{N:Nat}(hN:1000<N){s:uBH}(hs:s.length<=400)(ha:∀c∈s,c.toNat<128):za4 N s=some (jf s):=by unfold za4;have:=KE hN s hs ha N 0 (by omega) (by omega);simpa using this
def Yn(fl:UInt8)(b set:uBH):Bool:=b.all fun c=>!dig fl c||set.contains c
def flS(s:Shape):UInt8:=flo (edBody s.uC)
def XK(s:Shape):Bool:=s.uN||Yn (flS s) (edBody s.uC) ([90]++if flS s=0 then[]else[flS s])
def zc5(s:Shape)(neg:Bool)(ds:uBH)(zero:Bool):Option uBH:=if zero=true/\XK s=true then some (List.replicate s.uK.toNat 32)else if zero=true/\Yn (flS s) (edBody s.uC) [42]=true then some (jf s.uC)else zdt (zaA (flS s) neg (jd s.uC)) (j5 (zL (edBody s.uC)) (flS s) neg (edBody s.uC) ⟨ds,false,0,[],-1⟩)
theorem flo_is(b:uBH):flo b=0\/flo b=36\/flo b=43\/flo b=45:=by
 unfold flo;by_cases h1:1<b.count 45
 ·rw[if_pos h1];exact .inr (.inr (.inr rfl))
 ·rw[if_neg h1];by_cases h2:1<b.count 43
  ·rw[if_pos h2];exact .inr (.inr (.inl rfl))
  ·rw[if_neg h2];by_cases h3:1<b.count 36
   ·rw[if_pos h3];exact .inr (.inl rfl)
   ·rw[if_neg h3];exact .inl rfl
theorem zn9(p:uBH):(jd p).length<=2:=by
 unfold jd;split
 ·rename_i h;rcases h with h|h<;>rw[h]<;>simp
 ·simp
theorem zai(p:uBH):(edBody p).length<=p.length:=by
 unfold edBody;split
 ·rw[nA];omega
 ·exact nB _
theorem zs9{N:Nat}(hN:3000<N){s:Shape}(hp:s.uC.length<=400)(ha:∀c∈s.uC,c.toNat<128){n:Nat}(hn:s.uA=(n:Int))(h1:1<=n)(h2:n<=62)(hs1: -62<=s.uD)(hs2:s.uD<=62)(hz1:0<=s.uK)(hz2:s.uK<=1000)
  {d:Decimal} (hd:VD d) (hf:Jb d n s.uD) {r:uBH} (hr:zc5 s d.uR (fmt n (quo (val d.uA) d.uD.toNat s.uD)) (decide (d.uA=[48]))=some r)
  (hne:∀w,j5 (zL (edBody s.uC)) (flS s) d.uR (edBody s.uC) ⟨fmt n (quo (val d.uA) d.uD.toNat s.uD),false,0,[],-1⟩=some w->w.out≠[]):WH N d s=some r:=by
 have hbl:(edBody s.uC).length<=400:=nY (zai _) hp;have htl:(jd s.uC).length<=10:=nY (zn9 _) (by decide);unfold WH;rw[zs7 (by omega) hp,zc];obtain⟨z,hz⟩:∃z,decide (d.uA=([48]:uBH))=z:=⟨_,rfl⟩
 rw[hz]at hr⊢;have only:=fun set=>zs6 (N:=N) (by omega) (t:=jd s.uC) (flS s) set hbl
 have k1:∀t:Bool,(t=true->some (jf s.uC)=some r)->(t=false->zdt (zaA (flS s) d.uR (jd s.uC)) (j5 (zL (edBody s.uC)) (flS s) d.uR (edBody s.uC) ⟨fmt n (quo (val d.uA) d.uD.toNat s.uD),false,0,[],-1⟩)=some r)->K7 N t d s (zk3 s)=some r:=by
  intro t ht1 ht2;unfold K7;cases t
  ·have hw:=ht2 rfl;obtain⟨w,hw1,rfl⟩:=zdM hw;have hlen:(fmt n (quo (val d.uA) d.uD.toNat s.uD)).length<=1000:=by rw[js];omega
   obtain⟨q,hq1,hq2⟩:=zpL (N:=N) hbl htl (by omega) _ hlen hw1 (hne w hw1) 0;rw[cond_false,hn,WX hN hd h1 h2 hs1 hs2,if_pos hf,zc];show bnd (zeu N (edBody s.uC) (jd s.uC) ((flS s).toNat:Int) _ d.uR false 0 0) _=_;rw[hq1,zc,hq2]
  ·rw[cond_true,zlh (by omega) hp ha,zc];exact ht1 rfl
 have k0:∀t:Bool,t=(z&&XK s)->QB N z t d s (zk3 s)=some r:=by
  intro t ht;unfold QB zc5 at*
  cases t
  ·have hb:¬(z=true/\XK s=true):=by rintro⟨e1,e2⟩;rw[e1,e2]at ht;cases ht
   rw[if_neg hb]at hr;rw[cond_false];cases z
   ·rw[cond_false];rw[if_neg (by rintro⟨e,_⟩;cases e)]at hr;exact k1 false (fun e=>by cases e) (fun _=>hr)
   ·rw[cond_true];show bnd (zhX N (picture.mk (edBody s.uC) (jd s.uC) ((flS s).toNat:Int)) [42]) _=_;rw[only,zc];refine k1 _ (fun e=>?_) (fun e=>?_)
    ·rwa [if_pos ⟨rfl,e⟩]at hr
    ·rwa [if_neg (by rintro⟨_,e'⟩;unfold Yn at e';rw[e]at e';cases e')]at hr
  ·have hb:z=true/\XK s=true:=by simpa using ht.symm
   rw[if_pos hb]at hr;obtain⟨k,hk⟩:=uBi hz1;rw[cond_true,hk];have:zoy ([32].map toByte) (k:Int)=some (List.replicate k 32):=by show chk (decide ((0:Int)<=k)&&decide ((k:Int)<=140737488355328)) _=_;rw[decide_eq_true (by omega),decide_eq_true (by omega)];rfl
   rw[this,zc,<-hr,hk];rfl
 cases z
 ·rw[cond_false];exact k0 false rfl
 ·rw[cond_true];cases hbk:s.uN with
  |true=>rw[cond_true];exact k0 true (by unfold XK;rw[hbk];rfl)
  |false=>
   rw[cond_false];have htr:ZT ([(zk3 s).float].map toByte) [0]=some (if flS s=0 then[]else[flS s]):=by show ZT ([((flS s).toNat:Int)].map toByte) [0]=_;rw[uBa,jL];rcases flo_is (edBody s.uC)with h|h|h|h<;>(unfold flS;rw[h];rfl)
   have hfu:ze .u8 (zk3 s).float=true:=jO (flS s);have hco:ja ([90]:uBH) (if flS s=0 then[]else[flS s])=true:=QJ.2 (by split<;>simp);rw[hfu,uAL,za,htr,zc,hco,za];show bnd (zhX N (picture.mk (edBody s.uC) (jd s.uC) ((flS s).toNat:Int)) _) _=_;rw[only,zc];exact k0 _ (by unfold XK;rw[hbk];rfl)
end Go.Proofs.C06
end
section
set_option maxRecDepth 100000
namespace Go.Proofs.C06
open Go Go.RowKit Go.Vc Go.Am Go.Dg
def need(fl:UInt8):Bool->uBH->Nat
 |_,[]=>0
 |fst,c::b=>if dig fl c=true then(if c=fl/\fst=false then need fl true b else need fl fst b+1)else need fl fst b
theorem zaz(fc c:UInt8)(r:Bool)(w:WS):(j1 fc c r w).fst=w.fst:=by unfold j1;split<;>rfl
theorem zg2(fc fl:UInt8)(neg:Bool):∀(b:uBH)(w:WS),need fl w.fst b<=w.ds.length->∃w',j5 fc fl neg b w=some w'
 |[],w,_=>⟨w,rfl⟩
 |c::b,w,h=>by
  have step:∃w1,jW fc fl neg c w=some w1/\need fl w1.fst b<=w1.ds.length:=by
   unfold need at h;unfold jW;by_cases hd:dig fl c=true
   ·rw[if_pos hd]at h⊢;unfold Wp;by_cases hf:c=fl/\w.fst=false
    ·rw[if_pos hf]at h⊢;refine⟨_,rfl,?_⟩;rw[zaz,(yX _ _ _ _).2];exact h
    ·rw[if_neg hf]at h⊢;cases hds:w.ds with
     |nil=>rw[hds]at h;simp at h
     |cons d r=>refine⟨_,rfl,?_⟩;rw[zaz,(yX _ _ _ _).2];rw[hds,nC]at h;exact Nat.le_of_succ_le_succ h
   ·rw[if_neg hd]at h⊢;by_cases h86:c=86
    ·rw[if_pos h86];exact⟨_,rfl,h⟩
    ·rw[if_neg h86];by_cases h46:c=46
     ·rw[if_pos h46];refine⟨_,rfl,?_⟩;rw[zaz,(yX _ _ _ _).2];exact h
     ·rw[if_neg h46];refine⟨_,rfl,?_⟩;rw[zaz,(yX _ _ _ _).2];exact h
  obtain⟨w1,h1,h2⟩:=step;obtain⟨w2,h3⟩:=zg2 fc fl neg b w1 h2;exact⟨w2,by unfold j5;rw[h1];exact h3⟩
theorem wrun_out(fc fl:UInt8)(neg:Bool):∀(b:uBH)(w w':WS),j5 fc fl neg b w=some w'->w'.out.length+b.count 86=w.out.length+b.length\/fl=86
 |[],w,w',h=>by cases h;exact .inl rfl
 |c::b,w,w',h=>by
  unfold j5 at h;split at h
  ·rename_i w1 hs;rcases wrun_out fc fl neg b w1 w' h with h2|h2
   ·by_cases hfl:fl=86
    ·exact .inr hfl
    ·left;unfold jW at hs;rw[List.count_cons,nC];split at hs
     ·rename_i hd;have:=(zkc hs).1;have hc:c≠86:=fun e=>by subst e;unfold dig at hd;simp at hd;exact hfl hd.symm
      rw[show(c==86)=false by simpa using hc,if_neg (by decide)];omega
     ·split at hs
      ·rename_i hc;cases hs;subst hc;simp only[beq_self_eq_true,if_true];simp only at h2;omega
      ·rename_i hc;rw[show(c==86)=false by simpa using hc,if_neg (by decide)];split at hs
       ·cases hs;rw[(yX _ _ _ _).1]at h2;simp only at h2;omega
       ·cases hs;rw[(yX _ _ _ _).1]at h2;omega
   ·exact .inr h2
  ·cases h
theorem zhA(fl:UInt8):∀b:uBH,need fl true b=b.countP (dig fl)
 |[]=>rfl
 |c::b=>by unfold need;rw[List.countP_cons,zhA fl b];cases hd:dig fl c<;>simp
theorem q9(fl:UInt8):dig fl fl=true:=by unfold dig;simp
theorem zfc(fl:UInt8):∀b:uBH,need fl false b+(if b.contains fl=true then 1 else 0)=b.countP (dig fl)
 |[]=>rfl
 |c::b=>by
  unfold need;rw[List.countP_cons,uAt];by_cases hc:c=fl
  ·subst hc;rw[if_pos (q9 c),if_pos ⟨rfl,rfl⟩,zhA,q9];simp
  ·have ih:=zfc fl b;rw[show(fl==c)=false by simpa using fun e=>hc e.symm,Bool.false_or];by_cases hd:dig fl c=true
   ·rw[if_pos hd,if_neg (fun h=>hc h.1),if_pos hd];omega
   ·rw[if_neg hd,if_neg hd];omega
theorem zw8{b:uBH}(a:UInt8)(ha:a=36\/a=43\/a=45)(h:1<b.count a)(h2:∀x:UInt8,(x=43\/x=45)->x≠a->b.count x<=1):flo b=a:=by
 unfold flo;rcases ha with rfl|rfl|rfl
 ·rw[if_neg (by have:=h2 45 (.inr rfl) (by decide);omega),if_neg (by have:=h2 43 (.inl rfl) (by decide);omega),if_pos h]
 ·rw[if_neg (by have:=h2 45 (.inr rfl) (by decide);omega),if_pos h]
 ·rw[if_pos h]
theorem zsS{b:uBH}(h:∀x:UInt8,(x=36\/x=43\/x=45)->b.count x<=1):flo b=0:=by unfold flo;rw[if_neg (by have:=h 45 (.inr (.inr rfl));omega),if_neg (by have:=h 43 (.inr (.inl rfl));omega),if_neg (by have:=h 36 (.inl rfl);omega)]
section
variable {sg0 : Nat} {q : uBH} {dg sc : Nat} {sn : Bool} {s1 m1 : uBH} {c : UInt8} {k m : Nat} {pt : uBH} {x : UInt8} {f : Nat} {e : uBH}
theorem zcw(a u:UInt8)(n:Nat):(List.replicate n u).count a=if u=a then n else 0:=by rw[List.count_replicate];by_cases h:u=a<;>simp[h]
def zci(c:UInt8)(k:Nat):Prop:=0<k/\(c=36\/c=43\/c=45)
instance(c:UInt8)(k:Nat):Decidable (zci c k):=by unfold zci;infer_instance
theorem EdF.two(h:EdF sg0 q dg sc sn s1 m1 c k m pt x f e)(hf:zci c k):2<=k:=by
 rcases h.run with r|r|r|r
 ·have:=hf.1;omega
 ·rcases hf.2 with e|e|e<;>rw[r]at e<;>simp at e
 ·rcases hf.2 with e|e|e<;>rw[r]at e<;>simp at e
 ·exact r.1
theorem EdF.cnt(h:EdF sg0 q dg sc sn s1 m1 c k m pt x f e){a:UInt8}(ha:a=36\/a=43\/a=45):q.count a=s1.count a+(m1.count a+((if c=a then k else 0)+((if x=a then f else 0)+e.count a))):=by
 rw[h.eq,nP,nP,nP,nP,nP,nP,zcw,zcw,zcw];have h57:(if(57:UInt8)=a then m else 0)=0:=if_neg (by rcases ha with rfl|rfl|rfl<;>decide);have hp:pt.count a=0:=by rcases h.hpt with⟨r,_⟩|⟨r,_⟩|r<;>rw[r]<;>rcases ha with rfl|rfl|rfl<;>decide
 rw[h57,hp];omega
theorem EdF.low(h:EdF sg0 q dg sc sn s1 m1 c k m pt x f e){a:UInt8}(ha:a=36\/a=43\/a=45)(hn:¬(0<k/\c=a)):q.count a<=1:=by
 rw[h.cnt ha];have h1:(if c=a then k else 0)=0:=by
  split
  ·rename_i e;rcases uA0 k with h0|h0
   ·exact h0
   ·exact (hn ⟨h0,e⟩).elim
  ·rfl
 have h2:(if x=a then f else 0)=0:=by
  split
  ·rename_i e;rcases uA0 f with h0|h0
   ·exact h0
   ·rcases h.fx h0 with r|⟨_,⟨r1,r2⟩|⟨_,r⟩⟩
    ·rw[e]at r;subst r;rcases ha with r|r|r<;>simp at r
    ·exact (hn ⟨r1,by rw[<-r2,e]⟩).elim
    ·rw[e]at r;rcases r with rfl|rfl<;>rcases ha with r|r|r<;>simp at r
  ·rfl
 have h3:=uAK (a:=a) (l:=s1);have h4:=uAK (a:=a) (l:=e);have hsg:=h.hsg;rw[h1,h2];rcases ha with rfl|rfl|rfl
 ·have h5:s1.count 36=0:=by rcases h.hs1 with r|r|r<;>rw[r]<;>decide
  have h6:e.count 36=0:=by rcases h.he with r|r|r<;>rw[r]<;>decide
  have h7:m1.count 36<=1:=by rcases h.hm1 with r|r<;>rw[r]<;>decide
  omega
 ·have h7:m1.count 43=0:=by rcases h.hm1 with r|r<;>rw[r]<;>decide
  omega
 ·have h7:m1.count 45=0:=by rcases h.hm1 with r|r<;>rw[r]<;>decide
  omega
theorem EdF.flo(h:EdF sg0 q dg sc sn s1 m1 c k m pt x f e):flo q=if zci c k then c else 0:=by
 by_cases hf:zci c k
 ·rw[if_pos hf];refine zw8 c hf.2 ?_ (fun y hy hne=>h.low (by rcases hy with r|r<;>simp[r]) (fun k'=>hne k'.2.symm));rw[h.cnt hf.2,if_pos rfl];have:=h.two hf;omega
 ·rw[if_neg hf];exact zsS fun y hy=>h.low hy (fun k'=>hf ⟨k'.1,by rw[k'.2];exact hy⟩)
theorem zam(p:UInt8->Bool)(u:UInt8)(n:Nat):(List.replicate n u).countP p=if p u=true then n else 0:=by rw[List.countP_replicate]
theorem EdF.need(h:EdF sg0 q dg sc sn s1 m1 c k m pt x f e):need (C06.flo q) false q=dg:=by
 have hfl:=h.flo;obtain⟨fl,hfd⟩:∃fl,C06.flo q=fl:=⟨_,rfl⟩
 rw[hfd]at hfl⊢;have hn:=zfc fl q;have hsg:=h.hsg;have key:q.countP (dig fl)=k+m+f:=by
  rw[h.eq,uBD,uBD,uBD,uBD,uBD,uBD,zam,zam,zam];have e1:s1.countP (dig fl)=0:=by
   rw[hfl];by_cases hf:zci c k
   ·rw[if_pos hf];rcases hf.2 with r|r|r
    ·rw[r];rcases h.hs1 with r|r|r<;>rw[r]<;>decide
    ·rw[if_pos ⟨hf.1,.inl r⟩]at hsg;rw[uAv (show s1.length=0 by omega)];rfl
    ·rw[if_pos ⟨hf.1,.inr r⟩]at hsg;rw[uAv (show s1.length=0 by omega)];rfl
   ·rw[if_neg hf];rcases h.hs1 with r|r|r<;>rw[r]<;>decide
  have e2:e.countP (dig fl)=0:=by
   rw[hfl];by_cases hf:zci c k
   ·rw[if_pos hf];rcases hf.2 with r|r|r
    ·rw[r];rcases h.he with r|r|r<;>rw[r]<;>decide
    ·rw[if_pos ⟨hf.1,.inl r⟩]at hsg;rw[uAv (show e.length=0 by omega)];rfl
    ·rw[if_pos ⟨hf.1,.inr r⟩]at hsg;rw[uAv (show e.length=0 by omega)];rfl
   ·rw[if_neg hf];rcases h.he with r|r|r<;>rw[r]<;>decide
  have e3:m1.countP (dig fl)=0:=by
   rw[hfl];rcases h.hm1 with r|r
   ·rw[r];rfl
   ·by_cases hf:zci c k
    ·rw[if_pos hf,r];rcases hf.2 with r2|r2|r2
     ·exact (h.dol r hf.1 r2).elim
     ·rw[r2];decide
     ·rw[r2];decide
    ·rw[if_neg hf,r];decide
  have e4:pt.countP (dig fl)=0:=by
   have:∀y:UInt8,(y=36\/y=43\/y=45\/y=0)->pt.countP (dig y)=0:=fun y hy=>by rcases h.hpt with⟨r,_⟩|⟨r,_⟩|r<;>rw[r]<;>rcases hy with rfl|rfl|rfl|rfl<;>decide
   refine this fl ?_;rw[hfl];by_cases hf:zci c k
   ·rw[if_pos hf];rcases hf.2 with r|r|r<;>simp[r]
   ·rw[if_neg hf];simp
  have e5:(if dig fl c=true then k else 0)=k:=by
   rcases uA0 k with h0|h0
   ·rw[h0];split<;>rfl
   ·refine if_pos ?_;rcases h.run with r|r|r|r
    ·omega
    ·rw[r];unfold dig;simp
    ·rw[r];unfold dig;simp
    ·rw[hfl,if_pos ⟨h0,r.2⟩];exact q9 c
  have e6:(if dig fl 57=true then m else 0)=m:=if_pos (by unfold dig;simp);have e7:(if dig fl x=true then f else 0)=f:=by
   rcases uA0 f with h0|h0
   ·rw[h0];split<;>rfl
   ·refine if_pos ?_;rcases h.fx h0 with r|⟨_,⟨r1,r2⟩|⟨_,r⟩⟩
    ·rw[r];unfold dig;simp
    ·rcases h.run with r|r|r|r
     ·omega
     ·rw[r2,r];unfold dig;simp
     ·rw[r2,r];unfold dig;simp
     ·rw[r2,hfl,if_pos ⟨r1,r.2⟩];exact q9 c
    ·rcases r with r|r<;>(rw[r];unfold dig;simp)
  rw[e1,e2,e3,e4,e5,e6,e7];omega
 rw[key]at hn;have hdg:=h.hdg;by_cases hf:zci c k
 ·have hdg':dg=k-1+m+f:=by rw[hdg,if_pos (show 0<k/\(c=36\/c=43\/c=45)from hf)]
  have hin:q.contains fl=true:=by
   rw[hfl,if_pos hf];have:=h.cnt hf.2;rw[if_pos rfl]at this;have h2:=h.two hf;have:0<q.count c:=by omega
   simpa using List.count_pos_iff.1 this
  rw[hin,if_pos rfl]at hn;have:=hf.1;omega
 ·have hdg':dg=k+m+f:=by rw[hdg,if_neg (show¬(0<k/\(c=36\/c=43\/c=45))from hf)]
  have hin:¬q.contains fl=true:=by
   rw[hfl,if_neg hf];intro h0;have h0:(0:UInt8)∈q:=by simpa using h0
   have hall:∀y∈q,y≠0:=by
    intro y hy;rw[h.eq]at hy;simp only[nJ,List.mem_replicate]at hy;rcases hy with hy|hy|hy|hy|hy|hy|hy
    ·rcases h.hs1 with r|r|r<;>rw[r]at hy<;>simp at hy<;>rw[hy]<;>decide
    ·rcases h.hm1 with r|r<;>rw[r]at hy<;>simp at hy<;>rw[hy]<;>decide
    ·rcases h.run with r|r|r|r
     ·omega
     ·rw[hy.2,r];decide
     ·rw[hy.2,r];decide
     ·rw[hy.2];rcases r.2 with r|r|r<;>rw[r]<;>decide
    ·rw[hy.2];decide
    ·rcases h.hpt with⟨r,_⟩|⟨r,_⟩|r<;>rw[r]at hy<;>simp at hy<;>rw[hy]<;>decide
    ·have hf0:0<f:=by omega
     rcases h.fx hf0 with r|⟨_,⟨r1,r2⟩|⟨_,r⟩⟩
     ·rw[hy.2,r];decide
     ·rcases h.run with r|r|r|r
      ·omega
      ·rw[hy.2,r2,r];decide
      ·rw[hy.2,r2,r];decide
      ·rw[hy.2,r2];rcases r.2 with r|r|r<;>rw[r]<;>decide
     ·rw[hy.2];rcases r with r|r<;>rw[r]<;>decide
    ·rcases h.he with r|r|r<;>rw[r]at hy<;>simp at hy<;>rw[hy]<;>decide
   exact hall 0 h0 rfl
  rw[if_neg hin]at hn;omega
end
theorem Vb{b:uBH}{a:UInt8}(ha:qD a=false):(noIns b).count a=b.count a:=by unfold noIns;rw[List.count_filter (by rw[ha];rfl)]
theorem zhS(b:uBH):flo (noIns b)=flo b:=by unfold flo;rw[Vb (by rfl),Vb (by rfl),Vb (by rfl)]
theorem Xf{fl:UInt8}(hf:fl=0\/fl=36\/fl=43\/fl=45):∀(fst:Bool)(b:uBH),need fl fst (noIns b)=need fl fst b
 |fst,[]=>rfl
 |fst,c::b=>by
  rw[Xe];cases hi:qD c with
  |true=>
   rw[if_pos rfl,Xf hf fst b];have hd:dig fl c=false:=by
    have:c=66\/c=48\/c=47\/c=44:=by unfold qD at hi;simpa[List.contains_cons]using hi
    rcases hf with rfl|rfl|rfl|rfl<;>rcases this with rfl|rfl|rfl|rfl<;>decide
   show _=if dig fl c=true then _ else _
   rw[hd,if_neg (by decide)]
  |false=>rw[if_neg (by decide)];unfold need;rw[Xf hf true b,Xf hf fst b]
theorem zfS{p:uBH}{d cc:Nat}{sn:Bool}(h:edS p=some (d,cc,sn)):need (flo (edBody p)) false (edBody p)=d:=by obtain⟨s1,m1,c,k,m,pt,x,f,e,hE⟩:=zfT h;have:=hE.need;rwa [zhS,Xf (flo_is _)]at this
end Go.Proofs.C06
end
section
set_option maxRecDepth 100000
namespace Go.Proofs.C06
open Go Go.RowKit Go.Vc Go.Am Go.Dg
structure ES(s:Shape)(n sc:Nat)(sg:Bool):Prop where
 ed:edS s.uC=some (n,sc,sg)
 dig:s.uA=(n:Int)
 scl:s.uD=(sc:Int)
 sgn:s.uM=sg
 n1:1<=n
 n18:n<=18
 scn:sc<=n
 siz:s.uK=(szN s.uC:Int)
 len:s.uC.length<=256
 ne:s.uC≠[]
 sy:∀c∈s.uC,syms.contains c=true
 cat:s.uB=5
theorem zob{p:uBH}{d c:Nat}{sg:Bool}(h:edS p=some (d,c,sg)):1<=d/\c<=d:=by obtain⟨s1,m1,c',k,m,pt,x,f,e,hh⟩:=zfT h;have h1:=hh.hdg;have h2:=hh.hsc;have h3:=hh.pos;omega
theorem zuX{p:uBH}{sh:Shape}(h:parS p=(sh,0))(h5:sh.uB=5):∃d c sg,edS p=some (d,c,sg)/\sh=qf p d c sg/\d<=18:=by
 unfold parS at h;split at h
 ·rename_i x hx;cases h;unfold zbT at hx;split at hx
  ·cases hx;cases h5
  ·split at hx
   ·cases hx
   ·split at hx
    ·cases hx;cases h5
    ·split at hx
     ·cases hx;cases h5
     ·cases hx
 ·split at h
  ·unfold zfm at h;split at h
   ·cases h
   ·cases h;cases h5
  ·split at h
   ·rename_i d sc sg he;unfold zfm at h;split at h
    ·cases h
    ·rename_i hl;cases h;exact⟨d,sc,sg,he,rfl,by omega⟩
   ·cases h
theorem zhU{s:Shape}(h:chkV s=0)(h5:s.uB=5):∃n sc sg,ES s n sc sg:=by
 unfold chkV at h;by_cases hE:yY s=0
 ·rw[if_neg (fun h=>h hE),if_neg (by omega)]at h;unfold zdv at h;by_cases h1:(j9 s.uC).2=0
  ·rw[if_neg (fun h=>h h1)]at h;split at h
   ·cases h
   ·rename_i hpic;have hpic:(j9 s.uC).1.uC=s.uC:=Classical.byContradiction fun hne=>hpic hne
    obtain⟨t1,t2,t3⟩:=WT h;have t1:=of_decide_eq_false t1;have hc:(j9 s.uC).1.uB=s.uB:=Classical.byContradiction fun hne=>t1 (.inl hne)
    have hd:(j9 s.uC).1.uA=s.uA:=Classical.byContradiction fun hne=>t1 (.inr (.inl hne))
    have hs:(j9 s.uC).1.uD=s.uD:=Classical.byContradiction fun hne=>t1 (.inr (.inr (.inl hne)))
    have hg:(j9 s.uC).1.uM=s.uM:=Classical.byContradiction fun hne=>t1 (.inr (.inr (.inr hne)))
    unfold j9 at h1 hc hd hs hg hpic;clear t1 h;obtain⟨p,e,hX⟩:∃p e,exR 0 [] (items s.uC)=(p,e):=⟨_,_,rfl⟩
    rw[hX]at h1 hc hd hs hg hpic;dsimp only at h1 hc hd hs hg hpic;by_cases hx:e=0
    ·rw[if_pos hx]at h1 hc hd hs hg hpic;obtain⟨g1,g2,g3⟩:=zlR hX hx;obtain⟨sh,e',hY⟩:∃sh e',parS p=(sh,e'):=⟨_,_,rfl⟩
     rw[hY]at h1 hc hd hs hg hpic;dsimp only at h1 hc hd hs hg hpic;rw[h1]at hY;obtain⟨d,c,sg,e1,e2,e3⟩:=zuX hY (hc.trans h5);rw[e2]at hpic hd hs hg;have hpic:p=s.uC:=hpic;rw[hpic]at g1 g2 g3 e1;obtain⟨b1,b2⟩:=zob e1;refine⟨d,c,sg,⟨e1,hd.symm,hs.symm,hg.symm,b1,e3,b2,?_,g2,g1,g3,h5⟩⟩;rw[t3];unfold sizeV;rw[if_neg (by omega),if_pos (by omega)]
    ·rw[if_neg hx]at h1;exact absurd h1 hx
  ·rw[if_pos h1]at h;exact absurd h h1
 ·rw[if_pos hE]at h;exact absurd h hE
theorem ztp{c:UInt8}{p:uBH}(h:∃x∈p,x≠c):p.count c<p.length:=by
 obtain⟨x,hx,hne⟩:=h;rcases uA9 (p.count c) p.length with h|h
 ·exact h
 ·have:=uAK (a:=c) (l:=p);have e:p.count c=p.length:=by omega
  exact absurd (List.count_eq_length.1 e x hx) (fun e=>hne e.symm)
theorem zsj{fl:UInt8}(hf:fl≠86):∀(f:Bool)(b:uBH),(∀x∈b,x=86)->need fl f b=0
 |_,[],_=>rfl
 |f,c::b,h=>by have hc:=h c (by simp);subst hc;unfold need;rw[if_neg (by unfold dig;simp;exact fun e=>hf e.symm),zsj hf f b (fun x hx=>h x (by simp[hx]))]
theorem zbi(b:uBH):flo b≠86:=by rcases flo_is b with h|h|h|h<;>rw[h]<;>decide
def gD(neg:Bool)(q sc:Nat):Decimal:=Yx (canon neg q sc)
theorem zsP{neg:Bool}{q sc n:Nat}(hn:n<=62)(hn1:1<=n)(hq:q<10^n)(hs:sc<=62):VD (gD neg q sc):=
 VD.of (nY (yk hn1 hq) hn) (nY (zT neg q sc) hs)
theorem zv1(neg:Bool)(q sc:Nat):(gD neg q sc).uD.toNat=(canon neg q sc).2.2:=by show(((canon neg q sc).2.2:Nat):Int).toNat=_;omega
theorem zjm(neg:Bool)(q:Nat){sc:Nat}(hs:sc<=62):val (gD neg q sc).uA*10^(62+(sc:Int)).toNat=q*10^(62+(gD neg q sc).uD.toNat):=by rw[zv1];show val (canon neg q sc).2.1*_=_;have h:=zcy neg q sc;rw[show(62+(sc:Int)).toNat=sc+62 by omega,uA2,<-uAr,h,uAr,<-uA2,uAO]
theorem zvl{neg:Bool}{q n sc:Nat}(hs:sc<=62)(hq:q<10^n):Jb (gD neg q sc) n sc/\quo (val (gD neg q sc).uA) (gD neg q sc).uD.toNat sc=q:=by
 have hS:(gD neg q sc).uD.toNat<=62:=by rw[zv1];exact nY (zT neg q sc) hs
 have hg:=zjm neg q hs;exact⟨(Qp hS (by omega) (by omega)).2 ⟨q,hq,hg⟩,ziN hS (by omega) (by omega) hg⟩
theorem zvk(neg:Bool)(q sc:Nat):decide ((gD neg q sc).uA=[48])=decide (q=0):=by
 rw[decide_eq_decide];constructor
 ·intro h;refine(zf8 neg q sc).1 ?_;show val (gD neg q sc).uA=0;rw[h];rfl
 ·rintro rfl;unfold gD;rw[yI];rfl
theorem zjl(neg:Bool)(q sc:Nat):(gD neg q sc).uR=(neg&&decide (q≠0)):=zf9 neg q sc
def edT(s:Shape)(n:Nat)(neg:Bool)(q:Nat):Option uBH:=zc5 s (neg&&decide (q≠0)) (fmt n q) (decide (q=0))
theorem zn8{s:Shape}{n sc:Nat}{sg:Bool}(h:ES s n sc sg)(neg:Bool){ds:uBH}(hl:ds.length=n)(zero:Bool):
  (∃r,zc5 s neg ds zero=some r)/\∀w,j5 (zL (edBody s.uC)) (flS s) neg (edBody s.uC) ⟨ds,false,0,[],-1⟩=some w->w.out≠[]:=by
 have hn:=zfS h.ed;obtain⟨w,hw⟩:=zg2 (zL (edBody s.uC)) (flS s) neg (edBody s.uC) ⟨ds,false,0,[],-1⟩ (by show need (flo _) false _<=ds.length;omega);constructor
 ·unfold zc5;rw[hw];split
  ·exact⟨_,rfl⟩
  ·split
   ·exact⟨_,rfl⟩
   ·exact⟨_,rfl⟩
 ·intro w' hw';rcases wrun_out _ _ _ _ _ _ hw' with h1|h1
  ·intro e;rw[e]at h1;have h2:(edBody s.uC).count 86<(edBody s.uC).length:=by refine ztp (Classical.byContradiction fun hne=>?_);have:=zsj (zbi (edBody s.uC)) false (edBody s.uC) (fun x hx=>Classical.byContradiction fun he=>hne ⟨x,hx,he⟩);have:=h.n1;omega
   have h1:0+(edBody s.uC).count 86=0+(edBody s.uC).length:=h1;omega
  ·exact absurd h1 (zbi _)
theorem zoa{N:Nat}(hN:3000<N){s:Shape}{n sc:Nat}{sg:Bool}(h:ES s n sc sg)(neg:Bool){q:Nat}(hq:q<10^n):∃r,edT s n neg q=some r/\WH N (gD neg q sc) s=some r:=by
 have h18:=h.n18;have h1:=h.n1;have h2:=h.scn;obtain⟨⟨r,hr⟩,hw⟩:=zn8 h (neg&&decide (q≠0)) (js n q) (decide (q=0));obtain⟨f1,f2⟩:=zvl (neg:=neg) (n:=n) (sc:=sc) (by omega) hq;refine⟨r,hr,zs9 hN (by have:=h.len;omega) (fun c hc=>zhd (h.sy c hc)) h.dig h1 (by omega) (by rw[h.scl];omega) (by rw[h.scl];omega) (by rw[h.siz];omega) ?_ (zsP (n:=n) (by omega) h1 hq (by omega)) ?_ ?_ ?_⟩
 ·rw[h.siz];have:=h.len;unfold szN;omega
 ·rw[h.scl];exact f1
 ·rw[h.scl,f2,zjl,zvk];exact hr
 ·rw[h.scl,f2,zjl];exact hw
theorem zhu{v n:Nat}{l:uBH}(hv:v<=val l)(hd:Digs l)(hl:l.length<=n):v<10^n:=
 Nat.lt_of_le_of_lt hv (uA1 (ym hd) (uAp (by decide) hl))
def QG(d:Decimal)(sc:Nat):Decimal:=gD d.uR (val d.uA/10^(d.uD.toNat-sc)*10^(d.uD.toNat-sc)) d.uD.toNat
theorem zqZ{N:Nat}(hN:3000<N){d:Decimal}(hd:VD d){sc:Nat}(hs:sc<=62):∃t,zl9 N d (sc:Int)=some (QG d sc,t,0):=by
 obtain⟨x,e,h1,h2,h3⟩:=zjI hN hd (s:=(sc:Int)) (by omega) (by omega);have hf:=hd.form;obtain⟨g1,g2,g3,g4,g5,_⟩:=hd;refine⟨decide (val d.uA%10^(d.uD-(sc:Int)).toNat=0),?_⟩;rw[h1];by_cases h:d.uD<=(sc:Int)
 ·obtain⟨rfl,rfl⟩:=h2 h;unfold QG gD;rw[show x.uD.toNat-sc=0 by omega,uAi,Nat.div_one,nM,hf]
 ·obtain⟨m,hm,hx⟩:=h3 (by omega);have ek:(d.uD-(sc:Int)).toNat=d.uD.toNat-sc:=by omega
  rw[ek]at hm;have hv:val (d.uA.take (d.uA.length-m)++List.replicate m 48)=val d.uA/10^(d.uD.toNat-sc)*10^(d.uD.toNat-sc):=by
   rw[yJ,(jB g2 (by omega)).1];rcases uA9 d.uA.length (d.uD.toNat-sc)with hlt|hge
   ·have hm':m=d.uA.length:=by omega
    rw[hm',uBr (ym g2),uBr (zhu (nB _) g2 (by omega)),uA8,uA8]
   ·have hm':m=d.uD.toNat-sc:=by omega
    rw[hm']
  have e0:(-d.uD).toNat=0:=by omega
  have hn:nrm d.uR (d.uA.take (d.uA.length-m)++List.replicate m 48) d.uD=(QG d sc,0):=by
   rw[W4,hv,e0,uAi,nM]
   ·rfl
   ·rw[hv,e0,uAi,nM];refine yk (by decide) (zhu (Nat.div_mul_le_self _ _) g2 g3)
   ·exact nY (zT _ _ _) (by omega)
  rw[hn]at hx;cases hx;rfl
theorem zto{d:Decimal}(hd:VD d){sc:Nat}(hs:sc<=62):VD (QG d sc)/\exact (val (QG d sc).uA) (QG d sc).uD.toNat sc/\quo (val (QG d sc).uA) (QG d sc).uD.toNat sc=quo (val d.uA) d.uD.toNat sc:=by
 obtain⟨g1,g2,g3,g4,g5,_⟩:=hd;obtain⟨S,hS⟩:∃S,S=d.uD.toNat:=⟨_,rfl⟩
 obtain⟨v,hv⟩:∃v,v=val d.uA:=⟨_,rfl⟩
 have hS62:S<=62:=by omega
 have hvd:VD (QG d sc):=VD.of (yk (by decide) (zhu (Nat.div_mul_le_self _ _) g2 g3)) (nY (zT _ _ _) (by omega));have hg:=zjm d.uR (v/10^(S-sc)*10^(S-sc)) hS62;have hc:QG d sc=gD d.uR (v/10^(S-sc)*10^(S-sc)) S:=by rw[hS,hv];rfl
 rw[<-hc]at hg;have key:val (QG d sc).uA*10^(62+(sc:Int)).toNat=quo v S sc*10^(62+(QG d sc).uD.toNat):=by
  refine uAY (pow_pos S) ?_;have e1:10^(62+(sc:Int)).toNat*10^S=10^(62+(S:Int)).toNat*10^sc:=by rw[<-uA2,<-uA2];congr 1;omega
  rw[uAr,e1,<-uAr,hg,uAr,Nat.mul_comm (10^(62+_)),<-uAr,uAr (quo v S sc),Nat.mul_comm (10^(62+_)) (10^S),<-uAr];congr 1;unfold quo;rw[show((S:Int)-(sc:Int)).toNat=S-sc by omega,show((sc:Int)-(S:Int)).toNat=sc-S by omega];rcases Nat.le_total S sc with h|h
  ·rw[show S-sc=0 by omega,uAi,Nat.div_one,Nat.div_one,nM,uAr,<-uA2,show sc-S+S=sc by omega]
  ·rw[show sc-S=0 by omega,uAi,nM,uAr,<-uA2,show S-sc+sc=S by omega]
 have hS':(QG d sc).uD.toNat<=62:=by have:=hvd.2.2.2.2.1;omega
 rw[<-hS,<-hv];exact⟨hvd,((Qp (n:=quo v S sc) hS' (by omega) (by omega)).2 ⟨_,KI _,key⟩).1,ziN hS' (by omega) (by omega) key⟩
theorem zuV{N:Nat}(hN:3000<N){d:Decimal}(hd:VD d){n sc:Nat}(h1:1<=n)(h18:n<=62)(hs:sc<=62)(he:exact (val d.uA) d.uD.toNat sc):
  zkV N d (n:Int) (sc:Int)=some (gD d.uR (quo (val d.uA) d.uD.toNat sc%10^n) sc,0):=by
 obtain⟨t,e1,e2,e3,e4,e5⟩:=(VK hN hd (n:=n) (s:=sc) (by omega) (by omega) (by omega)).1 he;have hl:d.uA.length<=1000:=by have:=hd.2.2.1;omega
 unfold zkV;rw[zb5 hN hl h1 h18 (by omega) (by omega),if_pos hd,zc,zh,if_pos rfl,e1,zc];dsimp only;have hin:zm ((t.length:Int)-(n:Int)) (t.length:Int) t.length=true:=by unfold zm;simp<;>omega
 have hv:val (t.drop (t.length-n))=quo (val d.uA) d.uD.toNat sc%10^n:=by rw[(jB e2 e4).2,e3]
 have hlt:quo (val d.uA) d.uD.toNat sc%10^n<10^n:=uBs _ (pow_pos n);have hne:t.drop (t.length-n)≠[]:=by intro h;have:=congrArg List.length h;rw[nD,uBw]at this;omega
 have e0:(-(sc:Int)).toNat=0:=by omega
 rw[uAd,cond_false,zk (by omega) (by omega),za,hin,za,Wf _ e4,zbv hN _ (e2.drop _) hne (by rw[nD];omega) (by omega) (by omega),zc,W4,hv,e0,uAi,nM,nK]
 ·rfl
 ·rw[hv,e0,uAi,nM];exact nY (yk h1 hlt) h18
 ·exact nY (zT _ _ _) (by omega)
def Kd(d:Decimal)(n sc:Nat):Nat:=quo (val d.uA) d.uD.toNat sc%10^n
theorem zmF{N:Nat}(hN:3000<N){s:Shape}{n sc:Nat}{sg:Bool}(h:ES s n sc sg)(hc:chkV s=0){d:Decimal}(hd:VD d):
  ∃r,edT s n d.uR (Kd d n sc)=some r/\zid N d s=some (r,0):=by
 have h18:=h.n18;have h1:=h.n1;have h2:=h.scn;have hlt:Kd d n sc<10^n:=uBs _ (pow_pos n);obtain⟨c1,c2,c3⟩:=zto hd (sc:=sc) (by omega);have hn:(QG d sc).uR=d.uR\/quo (val (QG d sc).uA) (QG d sc).uD.toNat sc=0:=by
  have e:(QG d sc).uR=_:=zjl _ _ _;by_cases h0:val d.uA/10^(d.uD.toNat-sc)*10^(d.uD.toNat-sc)=0
  ·right;have:val (QG d sc).uA=0:=by unfold QG;rw[h0];exact (zf8 _ _ _).2 rfl
   unfold quo;rw[this,uA8,Nat.zero_div]
  ·left;rw[e,decide_eq_true h0,uAL]
 have hg:gD (QG d sc).uR (Kd d n sc) sc=gD d.uR (Kd d n sc) sc:=by
  rcases hn with e|e
  ·rw[e]
  ·have:Kd d n sc=0:=by unfold Kd;rw[<-c3,e,Nat.zero_mod]
   rw[this];unfold gD;rw[yI,yI]
 obtain⟨r,e1,e2⟩:=zoa hN h d.uR hlt;refine⟨r,e1,?_⟩;obtain⟨t,ht⟩:=zqZ hN hd (sc:=sc) (by omega);have hk:X5 s 5=0:=by unfold X5;rw[if_neg (fun e=>e hc),if_neg (fun e=>e h.cat)]
 unfold zid;rw[zfW (by omega) (by have:=h.len;omega),hk,zc,zh,if_pos rfl,h.scl,ht,zc];dsimp only;rw[zh,if_pos rfl,h.dig,zuV hN c1 h1 (by omega) (by omega) c2,zc];dsimp only;rw[zh,if_pos rfl,c3,show quo (val d.uA) d.uD.toNat (sc:Int)%10^n=Kd d n sc from rfl,hg,e2,zc,clip_is,zc]
end Go.Proofs.C06
end
