/-
  A part of the proof of the laws.
-/
import Derived.Test.YtpgmpcjbndpblaaGreatDoorEa
import Derived.Test.YtpgmpcjbndpblaaGreatDoorUa
import Derived.Test.YtpgmpcjbndpblaaGreatDoorPc
section
set_option maxRecDepth 100000
namespace Go.Proofs.C06
open Go Go.RowKit Go.Vc Go.Am Go.Dg
def Yb(c:UInt8):UInt8:=if c=46 then 46 else 42
def je:uBi->uBi
 |[]=>[]
 |c::r=>if c=86 then je r else Yb c::je r
theorem zhC(N:Nat)(c:UInt8):zfB N (c.toNat:Int)=some (if c=86 then-1 else((Yb c).toNat:Int)):=by
 unfold zfB Yb;have e86:((c.toNat:Int)=86)↔c=86:=Zd c 86 (by decide);have e46:((c.toNat:Int)=46)↔c=46:=Zd c 46 (by decide);rw[zb,zb];by_cases h:c=86
 ·rw[if_pos (e86.2 h),if_pos h]
 ·rw[if_neg (fun e=>h (e86.1 e)),if_neg h];by_cases h2:c=46
  ·rw[if_pos (e46.2 h2),if_pos h2,h2]
  ·rw[if_neg (fun e=>h2 (e46.1 e)),if_neg h2];rfl
theorem zj6(c:UInt8):(Yb c).toNat<128:=by unfold Yb;split<;>decide
theorem JF{N:Nat}(s:uBi)(hs:s.length<=400)(ha:∀c∈s,c.toNat<128):∀(n i:Nat)(out:uBi),i<=s.length->s.length-i<n->out.length<=401+i->
  yq N n s i out=some (out++je (s.drop i))
 |0,i,out,_,h,_=>by omega
 |n+1,i,out,hi,h,ho=>by
  show YC N (yq N n) s i out=_;unfold YC;by_cases hlt:i<s.length
  ·have hc:=ha _ (VM hlt);rw[show Nat.blt i s.length=true from mV hlt,cond_true,ZY hc,zhC,zc,Zs hc,zI hlt,je,zb];by_cases h86:s.getD i 0=86
   ·rw[if_pos h86,if_neg (by decide),if_pos h86];exact JF s hs ha n (i+1) out (by omega) (by omega) (by omega)
   ·have hl:=zj6 (s.getD i 0);rw[if_neg h86,if_pos (by omega),if_neg h86,zb,if_pos (by omega),zed (by omega) (by omega)];unfold K2;rw[jX,uAs,za,List.map_singleton,jD,jK (by simp;omega),za,zc,JF s hs ha n (i+1) _ (by omega) (by omega) (by simp;omega),mP];rfl
  ·rw[show Nat.blt i s.length=false from Bool.eq_false_iff.2 (fun e=>hlt (mW e)),cond_false,nS (by omega)];unfold Kz;rw[decide_eq_true (by omega),za,zc];simp[je]
theorem Ks{N:Nat}(hN:1000<N)(s:uBi)(hs:s.length<=400)(ha:∀c∈s,c.toNat<128):∀(n i:Nat),i<=s.length->s.length-i<n->
  yu N n s s i=some (s.take i++je (s.drop i))
 |0,i,_,h=>by omega
 |n+1,i,hi,h=>by
  show YD N (yu N n) s s i=_;unfold YD;by_cases hlt:i<s.length
  ·have hc:=ha _ (VM hlt);have hrl:JK ((s.getD i 0).toNat:Int)=some 1:=by unfold JK Lib.runeLen;rw[if_neg (by omega),if_pos (by omega)]
   have hg:zap N ((s.length:Int)+4)=some []:=by
    unfold zap;rw[decide_eq_false (by omega),cond_false,decide_eq_true (by omega),cond_true];have:QW ((s.length:Int)+4)=true:=by rw[show((s.length:Int)+4)=Int.ofNat (s.length+4)from rfl];unfold QW;simp only[mV (show 1<=s.length+4 by omega),mV (show s.length+4<=281474976710656 by omega)];rfl
    rw[this,za,zc]
   have hw:Jb N (jl s (i:Int)) []=some ((((jl s (i:Int)).length:Nat):Int),s.take i):=by unfold Jb;have ht:jl s (i:Int)=s.take i:=rfl;rw[ht,nZ,jK (by rw[mI];omega),za]
   have k1:∀(rr:Int)(out:uBi),(rr= -1/\out=s.take i\/∃u:UInt8,u.toNat<128/\rr=(u.toNat:Int)/\out=s.take i++[u])->ZD N (yu N n) s (i:Int) ((s.getD i 0).toNat:Int) rr s (i+1)=some (out++je (s.drop (i+1))):=by
    intro rr out hrr;have fin:∀out:uBi,out.length<=401->yq N N (zN s ((i:Int)+1)) 0 out=some (out++je (s.drop (i+1))):=fun out ho=>by rw[show((i:Int)+1)=((i+1:Nat):Int)by omega,zcy];have:=JF (N:=N) (s.drop (i+1)) (by rw[mL];omega) (fun c hc=>ha c (uBg hc)) N 0 out (by omega) (by rw[mL];omega) (by omega);rw[this,nU]
    have hk1:inKb .i64 ((i:Int)+1)=true:=zg (by omega) (by omega);have hs1:zj ((i:Int)+1) (s.length:Int) s.length=true:=zr.2 ⟨by omega,by omega,by omega⟩;unfold ZD;rw[zb,if_neg (by omega),hrl,zc,zg (by omega) (by omega),za,hg,zc,zr.2 ⟨by omega,by omega,by omega⟩,za,hw,zc];dsimp only;rcases hrr with⟨rfl,rfl⟩|⟨u,hu,rfl,rfl⟩
    ·rw[decide_eq_false (by decide),cond_false,hk1,za,hs1,za];unfold zfY;rw[zc];exact fin _ (by rw[mI];omega)
    ·rw[decide_eq_true (by omega),cond_true];unfold zaM K6;rw[show IntKind.wrap .u32 (u.toNat:Int)=(u.toNat:Int)from zax ⟨by show(0:Int)<=_;omega,by show _<=(4294967295:Int);omega⟩,zb,if_pos (by omega),zed (by omega) (by omega),jX,uAs,za,List.map_singleton,jD,
      jK (by simp;omega),za,zc,zg (by simp;omega) (by simp;omega),za,zc,hk1,za,hs1,za]
     unfold zfY;rw[zc];exact fin _ (by simp;omega)
   rw[show Nat.blt i s.length=true from mV hlt,cond_true,ZY hc,zhC,zc,Zs hc,zI hlt,je,zb];by_cases h86:s.getD i 0=86
   ·rw[if_pos h86,if_neg (by omega),if_pos h86];exact k1 _ _ (.inl ⟨rfl,rfl⟩)
   ·rw[if_neg h86,if_neg h86];by_cases hsame:Yb (s.getD i 0)=s.getD i 0
    ·rw[if_pos (by rw[hsame]),decide_eq_false (by omega),Bool.not_false,cond_true,Ks hN s hs ha n (i+1) (by omega) (by omega),hsame];rw[uA8,mP];congr 2;rw[mE hlt,<-VN hlt];rfl
    ·rw[if_neg (fun e=>hsame (UInt8.toNat_inj.1 (by omega)))];have:=k1 _ _ (.inr ⟨Yb (s.getD i 0),zj6 _,rfl,rfl⟩);rw[this,mP];rfl
  ·rw[show Nat.blt i s.length=false from Bool.eq_false_iff.2 (fun e=>hlt (mW e)),cond_false,nS (by omega),nH (by omega)];simp[je]
theorem zkG{N:Nat}(hN:1000<N){s:uBi}(hs:s.length<=400)(ha:∀c∈s,c.toNat<128):za0 N s=some (je s):=by unfold za0;have:=Ks hN s hs ha N 0 (by omega) (by omega);simpa using this
def Yd(fl:UInt8)(b set:uBi):Bool:=b.all fun c=>!dig fl c||set.contains c
def flS(s:Shape):UInt8:=flo (edBody s.uC)
def XD(s:Shape):Bool:=s.uI||Yd (flS s) (edBody s.uC) ([90]++if flS s=0 then[]else[flS s])
def zde(s:Shape)(neg:Bool)(ds:uBi)(zero:Bool):Option uBi:=if zero=true/\XD s=true then some (List.replicate s.uE.toNat 32)else if zero=true/\Yd (flS s) (edBody s.uC) [42]=true then some (je s.uC)else zdB (zaA (flS s) neg (jc s.uC)) (j5 (zH (edBody s.uC)) (flS s) neg (edBody s.uC) ⟨ds,false,0,[],-1⟩)
theorem flo_is(b:uBi):flo b=0\/flo b=36\/flo b=43\/flo b=45:=by
 unfold flo;by_cases h1:1<b.count 45
 ·rw[if_pos h1];exact .inr (.inr (.inr rfl))
 ·rw[if_neg h1];by_cases h2:1<b.count 43
  ·rw[if_pos h2];exact .inr (.inr (.inl rfl))
  ·rw[if_neg h2];by_cases h3:1<b.count 36
   ·rw[if_pos h3];exact .inr (.inl rfl)
   ·rw[if_neg h3];exact .inl rfl
theorem znz(p:uBi):(jc p).length<=2:=by
 unfold jc;split
 ·rename_i h;rcases h with h|h<;>rw[h]<;>simp
 ·simp
theorem zaf(p:uBi):(edBody p).length<=p.length:=by
 unfold edBody;split
 ·rw[mI];omega
 ·exact mK _
theorem zsn{N:Nat}(hN:3000<N){s:Shape}(hp:s.uC.length<=400)(ha:∀c∈s.uC,c.toNat<128){n:Nat}(hn:s.uA=(n:Int))(h1:1<=n)(h2:n<=62)(hs1: -62<=s.uD)(hs2:s.uD<=62)(hz1:0<=s.uE)(hz2:s.uE<=1000)
  {d:Decimal} (hd:VD d) (hf:ZU d n s.uD) {r:uBi} (hr:zde s d.uM (fmt n (quo (val d.uA) d.uD.toNat s.uD)) (decide (d.uA=[48]))=some r)
  (hne:∀w,j5 (zH (edBody s.uC)) (flS s) d.uM (edBody s.uC) ⟨fmt n (quo (val d.uA) d.uD.toNat s.uD),false,0,[],-1⟩=some w->w.out≠[]):KS N d s=some r:=by
 have hbl:(edBody s.uC).length<=400:=nB (zaf _) hp;have htl:(jc s.uC).length<=10:=nB (znz _) (by decide);unfold KS;rw[zsl (by omega) hp,zc];obtain⟨z,hz⟩:∃z,decide (d.uA=([48]:uBi))=z:=⟨_,rfl⟩
 rw[hz]at hr⊢;have only:=fun set=>zsk (N:=N) (by omega) (t:=jc s.uC) (flS s) set hbl
 have k1:∀t:Bool,(t=true->some (je s.uC)=some r)->(t=false->zdB (zaA (flS s) d.uM (jc s.uC)) (j5 (zH (edBody s.uC)) (flS s) d.uM (edBody s.uC) ⟨fmt n (quo (val d.uA) d.uD.toNat s.uD),false,0,[],-1⟩)=some r)->Qu N t d s (zkt s)=some r:=by
  intro t ht1 ht2;unfold Qu;cases t
  ·have hw:=ht2 rfl;obtain⟨w,hw1,rfl⟩:=zdW hw;have hlen:(fmt n (quo (val d.uA) d.uD.toNat s.uD)).length<=1000:=by rw[jg];omega
   obtain⟨q,hq1,hq2⟩:=zpf (N:=N) hbl htl (by omega) _ hlen hw1 (hne w hw1) 0;rw[cond_false,hn,WR hN hd h1 h2 hs1 hs2,if_pos hf,zc];show bnd (zbV N (edBody s.uC) (jc s.uC) ((flS s).toNat:Int) _ d.uM false 0 0) _=_;rw[hq1,zc,hq2]
  ·rw[cond_true,zkG (by omega) hp ha,zc];exact ht1 rfl
 have k0:∀t:Bool,t=(z&&XD s)->JW N z t d s (zkt s)=some r:=by
  intro t ht;unfold JW zde at*
  cases t
  ·have hb:¬(z=true/\XD s=true):=by rintro⟨e1,e2⟩;rw[e1,e2]at ht;cases ht
   rw[if_neg hb]at hr;rw[cond_false];cases z
   ·rw[cond_false];rw[if_neg (by rintro⟨e,_⟩;cases e)]at hr;exact k1 false (fun e=>by cases e) (fun _=>hr)
   ·rw[cond_true];show bnd (zhE N (picture.mk (edBody s.uC) (jc s.uC) ((flS s).toNat:Int)) [42]) _=_;rw[only,zc];refine k1 _ (fun e=>?_) (fun e=>?_)
    ·rwa [if_pos ⟨rfl,e⟩]at hr
    ·rwa [if_neg (by rintro⟨_,e'⟩;unfold Yd at e';rw[e]at e';cases e')]at hr
  ·have hb:z=true/\XD s=true:=by simpa using ht.symm
   rw[if_pos hb]at hr;obtain⟨k,hk⟩:=uAX hz1;rw[cond_true,hk];have:zgJ ([32].map toByte) (k:Int)=some (List.replicate k 32):=by show chk (decide ((0:Int)<=k)&&decide ((k:Int)<=140737488355328)) _=_;rw[decide_eq_true (by omega),decide_eq_true (by omega)];rfl
   rw[this,zc,<-hr,hk];rfl
 cases z
 ·rw[cond_false];exact k0 false rfl
 ·rw[cond_true];cases hbk:s.uI with
  |true=>rw[cond_true];exact k0 true (by unfold XD;rw[hbk];rfl)
  |false=>
   rw[cond_false];have htr:ZI ([(zkt s).float].map toByte) [0]=some (if flS s=0 then[]else[flS s]):=by show ZI ([((flS s).toNat:Int)].map toByte) [0]=_;rw[List.map_singleton,jD];rcases flo_is (edBody s.uC)with h|h|h|h<;>(unfold flS;rw[h];rfl)
   have hfu:inKb .u8 (zkt s).float=true:=jX (flS s);have hco:zO ([90]:uBi) (if flS s=0 then[]else[flS s])=true:=QB.2 (by split<;>simp);rw[hfu,uAs,za,htr,zc,hco,za];show bnd (zhE N (picture.mk (edBody s.uC) (jc s.uC) ((flS s).toNat:Int)) _) _=_;rw[only,zc];exact k0 _ (by unfold XD;rw[hbk];rfl)
end Go.Proofs.C06
end
section
set_option maxRecDepth 100000
namespace Go.Proofs.C06
open Go Go.RowKit Go.Vc Go.Am Go.Dg
def need(fl:UInt8):Bool->uBi->Nat
 |_,[]=>0
 |fst,c::b=>if dig fl c=true then(if c=fl/\fst=false then need fl true b else need fl fst b+1)else need fl fst b
theorem zaz(fc c:UInt8)(r:Bool)(w:WS):(j2 fc c r w).fst=w.fst:=by unfold j2;split<;>rfl
theorem zgN(fc fl:UInt8)(neg:Bool):∀(b:uBi)(w:WS),need fl w.fst b<=w.ds.length->∃w',j5 fc fl neg b w=some w'
 |[],w,_=>⟨w,rfl⟩
 |c::b,w,h=>by
  have step:∃w1,jR fc fl neg c w=some w1/\need fl w1.fst b<=w1.ds.length:=by
   unfold need at h;unfold jR;by_cases hd:dig fl c=true
   ·rw[if_pos hd]at h⊢;unfold We;by_cases hf:c=fl/\w.fst=false
    ·rw[if_pos hf]at h⊢;refine⟨_,rfl,?_⟩;rw[zaz,(yM _ _ _ _).2];exact h
    ·rw[if_neg hf]at h⊢;cases hds:w.ds with
     |nil=>rw[hds]at h;simp at h
     |cons d r=>refine⟨_,rfl,?_⟩;rw[zaz,(yM _ _ _ _).2];rw[hds,mJ]at h;exact Nat.le_of_succ_le_succ h
   ·rw[if_neg hd]at h⊢;by_cases h86:c=86
    ·rw[if_pos h86];exact⟨_,rfl,h⟩
    ·rw[if_neg h86];by_cases h46:c=46
     ·rw[if_pos h46];refine⟨_,rfl,?_⟩;rw[zaz,(yM _ _ _ _).2];exact h
     ·rw[if_neg h46];refine⟨_,rfl,?_⟩;rw[zaz,(yM _ _ _ _).2];exact h
  obtain⟨w1,h1,h2⟩:=step;obtain⟨w2,h3⟩:=zgN fc fl neg b w1 h2;exact⟨w2,by unfold j5;rw[h1];exact h3⟩
theorem wrun_out(fc fl:UInt8)(neg:Bool):∀(b:uBi)(w w':WS),j5 fc fl neg b w=some w'->w'.out.length+b.count 86=w.out.length+b.length\/fl=86
 |[],w,w',h=>by cases h;exact .inl rfl
 |c::b,w,w',h=>by
  unfold j5 at h;split at h
  ·rename_i w1 hs;rcases wrun_out fc fl neg b w1 w' h with h2|h2
   ·by_cases hfl:fl=86
    ·exact .inr hfl
    ·left;unfold jR at hs;rw[List.count_cons,mJ];split at hs
     ·rename_i hd;have:=(zjK hs).1;have hc:c≠86:=fun e=>by subst e;unfold dig at hd;simp at hd;exact hfl hd.symm
      rw[show(c==86)=false by simpa using hc,if_neg (by decide)];omega
     ·split at hs
      ·rename_i hc;cases hs;subst hc;simp only[beq_self_eq_true,if_true];simp only at h2;omega
      ·rename_i hc;rw[show(c==86)=false by simpa using hc,if_neg (by decide)];split at hs
       ·cases hs;rw[(yM _ _ _ _).1]at h2;simp only at h2;omega
       ·cases hs;rw[(yM _ _ _ _).1]at h2;omega
   ·exact .inr h2
  ·cases h
theorem zhg(fl:UInt8):∀b:uBi,need fl true b=b.countP (dig fl)
 |[]=>rfl
 |c::b=>by unfold need;rw[List.countP_cons,zhg fl b];cases hd:dig fl c<;>simp
theorem qP(fl:UInt8):dig fl fl=true:=by unfold dig;simp
theorem zeU(fl:UInt8):∀b:uBi,need fl false b+(if b.contains fl=true then 1 else 0)=b.countP (dig fl)
 |[]=>rfl
 |c::b=>by
  unfold need;rw[List.countP_cons,nX];by_cases hc:c=fl
  ·subst hc;rw[if_pos (qP c),if_pos ⟨rfl,rfl⟩,zhg,qP];simp
  ·have ih:=zeU fl b;rw[show(fl==c)=false by simpa using fun e=>hc e.symm,Bool.false_or];by_cases hd:dig fl c=true
   ·rw[if_pos hd,if_neg (fun h=>hc h.1),if_pos hd];omega
   ·rw[if_neg hd,if_neg hd];omega
theorem zve{b:uBi}(a:UInt8)(ha:a=36\/a=43\/a=45)(h:1<b.count a)(h2:∀x:UInt8,(x=43\/x=45)->x≠a->b.count x<=1):flo b=a:=by
 unfold flo;rcases ha with rfl|rfl|rfl
 ·rw[if_neg (by have:=h2 45 (.inr rfl) (by decide);omega),if_neg (by have:=h2 43 (.inl rfl) (by decide);omega),if_pos h]
 ·rw[if_neg (by have:=h2 45 (.inr rfl) (by decide);omega),if_pos h]
 ·rw[if_pos h]
theorem zr7{b:uBi}(h:∀x:UInt8,(x=36\/x=43\/x=45)->b.count x<=1):flo b=0:=by unfold flo;rw[if_neg (by have:=h 45 (.inr (.inr rfl));omega),if_neg (by have:=h 43 (.inr (.inl rfl));omega),if_neg (by have:=h 36 (.inl rfl);omega)]
section
variable {sg0 : Nat} {q : uBi} {dg sc : Nat} {sn : Bool} {s1 m1 : uBi} {c : UInt8} {k m : Nat} {pt : uBi} {x : UInt8} {f : Nat} {e : uBi}
theorem zcE(a u:UInt8)(n:Nat):(List.replicate n u).count a=if u=a then n else 0:=by rw[List.count_replicate];by_cases h:u=a<;>simp[h]
def zcq(c:UInt8)(k:Nat):Prop:=0<k/\(c=36\/c=43\/c=45)
instance(c:UInt8)(k:Nat):Decidable (zcq c k):=by unfold zcq;infer_instance
theorem EdF.two(h:EdF sg0 q dg sc sn s1 m1 c k m pt x f e)(hf:zcq c k):2<=k:=by
 rcases h.run with r|r|r|r
 ·have:=hf.1;omega
 ·rcases hf.2 with e|e|e<;>rw[r]at e<;>simp at e
 ·rcases hf.2 with e|e|e<;>rw[r]at e<;>simp at e
 ·exact r.1
theorem EdF.cnt(h:EdF sg0 q dg sc sn s1 m1 c k m pt x f e){a:UInt8}(ha:a=36\/a=43\/a=45):q.count a=s1.count a+(m1.count a+((if c=a then k else 0)+((if x=a then f else 0)+e.count a))):=by
 rw[h.eq,mX,mX,mX,mX,mX,mX,zcE,zcE,zcE];have h57:(if(57:UInt8)=a then m else 0)=0:=if_neg (by rcases ha with rfl|rfl|rfl<;>decide);have hp:pt.count a=0:=by rcases h.hpt with⟨r,_⟩|⟨r,_⟩|r<;>rw[r]<;>rcases ha with rfl|rfl|rfl<;>decide
 rw[h57,hp];omega
theorem EdF.low(h:EdF sg0 q dg sc sn s1 m1 c k m pt x f e){a:UInt8}(ha:a=36\/a=43\/a=45)(hn:¬(0<k/\c=a)):q.count a<=1:=by
 rw[h.cnt ha];have h1:(if c=a then k else 0)=0:=by
  split
  ·rename_i e;rcases uAr k with h0|h0
   ·exact h0
   ·exact (hn ⟨h0,e⟩).elim
  ·rfl
 have h2:(if x=a then f else 0)=0:=by
  split
  ·rename_i e;rcases uAr f with h0|h0
   ·exact h0
   ·rcases h.fx h0 with r|⟨_,⟨r1,r2⟩|⟨_,r⟩⟩
    ·rw[e]at r;subst r;rcases ha with r|r|r<;>simp at r
    ·exact (hn ⟨r1,by rw[<-r2,e]⟩).elim
    ·rw[e]at r;rcases r with rfl|rfl<;>rcases ha with r|r|r<;>simp at r
  ·rfl
 have h3:=uAq (a:=a) (l:=s1);have h4:=uAq (a:=a) (l:=e);have hsg:=h.hsg;rw[h1,h2];rcases ha with rfl|rfl|rfl
 ·have h5:s1.count 36=0:=by rcases h.hs1 with r|r|r<;>rw[r]<;>decide
  have h6:e.count 36=0:=by rcases h.he with r|r|r<;>rw[r]<;>decide
  have h7:m1.count 36<=1:=by rcases h.hm1 with r|r<;>rw[r]<;>decide
  omega
 ·have h7:m1.count 43=0:=by rcases h.hm1 with r|r<;>rw[r]<;>decide
  omega
 ·have h7:m1.count 45=0:=by rcases h.hm1 with r|r<;>rw[r]<;>decide
  omega
theorem EdF.flo(h:EdF sg0 q dg sc sn s1 m1 c k m pt x f e):flo q=if zcq c k then c else 0:=by
 by_cases hf:zcq c k
 ·rw[if_pos hf];refine zve c hf.2 ?_ (fun y hy hne=>h.low (by rcases hy with r|r<;>simp[r]) (fun k'=>hne k'.2.symm));rw[h.cnt hf.2,if_pos rfl];have:=h.two hf;omega
 ·rw[if_neg hf];exact zr7 fun y hy=>h.low hy (fun k'=>hf ⟨k'.1,by rw[k'.2];exact hy⟩)
theorem zai(p:UInt8->Bool)(u:UInt8)(n:Nat):(List.replicate n u).countP p=if p u=true then n else 0:=by rw[List.countP_replicate]
theorem EdF.need(h:EdF sg0 q dg sc sn s1 m1 c k m pt x f e):need (C06.flo q) false q=dg:=by
 have hfl:=h.flo;obtain⟨fl,hfd⟩:∃fl,C06.flo q=fl:=⟨_,rfl⟩
 rw[hfd]at hfl⊢;have hn:=zeU fl q;have hsg:=h.hsg;have key:q.countP (dig fl)=k+m+f:=by
  rw[h.eq,uBe,uBe,uBe,uBe,uBe,uBe,zai,zai,zai];have e1:s1.countP (dig fl)=0:=by
   rw[hfl];by_cases hf:zcq c k
   ·rw[if_pos hf];rcases hf.2 with r|r|r
    ·rw[r];rcases h.hs1 with r|r|r<;>rw[r]<;>decide
    ·rw[if_pos ⟨hf.1,.inl r⟩]at hsg;rw[uAa (show s1.length=0 by omega)];rfl
    ·rw[if_pos ⟨hf.1,.inr r⟩]at hsg;rw[uAa (show s1.length=0 by omega)];rfl
   ·rw[if_neg hf];rcases h.hs1 with r|r|r<;>rw[r]<;>decide
  have e2:e.countP (dig fl)=0:=by
   rw[hfl];by_cases hf:zcq c k
   ·rw[if_pos hf];rcases hf.2 with r|r|r
    ·rw[r];rcases h.he with r|r|r<;>rw[r]<;>decide
    ·rw[if_pos ⟨hf.1,.inl r⟩]at hsg;rw[uAa (show e.length=0 by omega)];rfl
    ·rw[if_pos ⟨hf.1,.inr r⟩]at hsg;rw[uAa (show e.length=0 by omega)];rfl
   ·rw[if_neg hf];rcases h.he with r|r|r<;>rw[r]<;>decide
  have e3:m1.countP (dig fl)=0:=by
   rw[hfl];rcases h.hm1 with r|r
   ·rw[r];rfl
   ·by_cases hf:zcq c k
    ·rw[if_pos hf,r];rcases hf.2 with r2|r2|r2
     ·exact (h.dol r hf.1 r2).elim
     ·rw[r2];decide
     ·rw[r2];decide
    ·rw[if_neg hf,r];decide
  have e4:pt.countP (dig fl)=0:=by
   have:∀y:UInt8,(y=36\/y=43\/y=45\/y=0)->pt.countP (dig y)=0:=fun y hy=>by rcases h.hpt with⟨r,_⟩|⟨r,_⟩|r<;>rw[r]<;>rcases hy with rfl|rfl|rfl|rfl<;>decide
   refine this fl ?_;rw[hfl];by_cases hf:zcq c k
   ·rw[if_pos hf];rcases hf.2 with r|r|r<;>simp[r]
   ·rw[if_neg hf];simp
  have e5:(if dig fl c=true then k else 0)=k:=by
   rcases uAr k with h0|h0
   ·rw[h0];split<;>rfl
   ·refine if_pos ?_;rcases h.run with r|r|r|r
    ·omega
    ·rw[r];unfold dig;simp
    ·rw[r];unfold dig;simp
    ·rw[hfl,if_pos ⟨h0,r.2⟩];exact qP c
  have e6:(if dig fl 57=true then m else 0)=m:=if_pos (by unfold dig;simp);have e7:(if dig fl x=true then f else 0)=f:=by
   rcases uAr f with h0|h0
   ·rw[h0];split<;>rfl
   ·refine if_pos ?_;rcases h.fx h0 with r|⟨_,⟨r1,r2⟩|⟨_,r⟩⟩
    ·rw[r];unfold dig;simp
    ·rcases h.run with r|r|r|r
     ·omega
     ·rw[r2,r];unfold dig;simp
     ·rw[r2,r];unfold dig;simp
     ·rw[r2,hfl,if_pos ⟨r1,r.2⟩];exact qP c
    ·rcases r with r|r<;>(rw[r];unfold dig;simp)
  rw[e1,e2,e3,e4,e5,e6,e7];omega
 rw[key]at hn;have hdg:=h.hdg;by_cases hf:zcq c k
 ·have hdg':dg=k-1+m+f:=by rw[hdg,if_pos (show 0<k/\(c=36\/c=43\/c=45)from hf)]
  have hin:q.contains fl=true:=by
   rw[hfl,if_pos hf];have:=h.cnt hf.2;rw[if_pos rfl]at this;have h2:=h.two hf;have:0<q.count c:=by omega
   simpa using List.count_pos_iff.1 this
  rw[hin,if_pos rfl]at hn;have:=hf.1;omega
 ·have hdg':dg=k+m+f:=by rw[hdg,if_neg (show¬(0<k/\(c=36\/c=43\/c=45))from hf)]
  have hin:¬q.contains fl=true:=by
   rw[hfl,if_neg hf];intro h0;have h0:(0:UInt8)∈q:=by simpa using h0
   have hall:∀y∈q,y≠0:=by
    intro y hy;rw[h.eq]at hy;simp only[mT,List.mem_replicate]at hy;rcases hy with hy|hy|hy|hy|hy|hy|hy
    ·rcases h.hs1 with r|r|r<;>rw[r]at hy<;>simp at hy<;>rw[hy]<;>decide
    ·rcases h.hm1 with r|r<;>rw[r]at hy<;>simp at hy<;>rw[hy]<;>decide
    ·rcases h.run with r|r|r|r
     ·omega
     ·rw[hy.2,r];decide
     ·rw[hy.2,r];decide
     ·rw[hy.2];rcases r.2 with r|r|r<;>rw[r]<;>decide
    ·rw[hy.2];decide
    ·rcases h.hpt with⟨r,_⟩|⟨r,_⟩|r<;>rw[r]at hy<;>simp at hy<;>rw[hy]<;>decide
    ·have hf0:0<f:=by omega
     rcases h.fx hf0 with r|⟨_,⟨r1,r2⟩|⟨_,r⟩⟩
     ·rw[hy.2,r];decide
     ·rcases h.run with r|r|r|r
      ·omega
      ·rw[hy.2,r2,r];decide
      ·rw[hy.2,r2,r];decide
      ·rw[hy.2,r2];rcases r.2 with r|r|r<;>rw[r]<;>decide
     ·rw[hy.2];rcases r with r|r<;>rw[r]<;>decide
    ·rcases h.he with r|r|r<;>rw[r]at hy<;>simp at hy<;>rw[hy]<;>decide
   exact hall 0 h0 rfl
  rw[if_neg hin]at hn;omega
end
theorem KW{b:uBi}{a:UInt8}(ha:qq a=false):(noIns b).count a=b.count a:=by unfold noIns;rw[List.count_filter (by rw[ha];rfl)]
theorem zhw(b:uBi):flo (noIns b)=flo b:=by unfold flo;rw[KW (by rfl),KW (by rfl),KW (by rfl)]
theorem Q3{fl:UInt8}(hf:fl=0\/fl=36\/fl=43\/fl=45):∀(fst:Bool)(b:uBi),need fl fst (noIns b)=need fl fst b
 |fst,[]=>rfl
 |fst,c::b=>by
  rw[Q2];cases hi:qq c with
  |true=>
   rw[if_pos rfl,Q3 hf fst b];have hd:dig fl c=false:=by
    have:c=66\/c=48\/c=47\/c=44:=by unfold qq at hi;simpa[List.contains_cons]using hi
    rcases hf with rfl|rfl|rfl|rfl<;>rcases this with rfl|rfl|rfl|rfl<;>decide
   show _=if dig fl c=true then _ else _
   rw[hd,if_neg (by decide)]
  |false=>rw[if_neg (by decide)];unfold need;rw[Q3 hf true b,Q3 hf fst b]
theorem zfz{p:uBi}{d cc:Nat}{sn:Bool}(h:edS p=some (d,cc,sn)):need (flo (edBody p)) false (edBody p)=d:=by obtain⟨s1,m1,c,k,m,pt,x,f,e,hE⟩:=zfA h;have:=hE.need;rwa [zhw,Q3 (flo_is _)]at this
end Go.Proofs.C06
end
section
set_option maxRecDepth 100000
namespace Go.Proofs.C06
open Go Go.RowKit Go.Vc Go.Am Go.Dg
structure ES(s:Shape)(n sc:Nat)(sg:Bool):Prop where
 ed:edS s.uC=some (n,sc,sg)
 dig:s.uA=(n:Int)
 scl:s.uD=(sc:Int)
 sgn:s.uG=sg
 n1:1<=n
 n18:n<=18
 scn:sc<=n
 siz:s.uE=(szN s.uC:Int)
 len:s.uC.length<=256
 ne:s.uC≠[]
 sy:∀c∈s.uC,syms.contains c=true
 cat:s.uB=5
theorem znB{p:uBi}{d c:Nat}{sg:Bool}(h:edS p=some (d,c,sg)):1<=d/\c<=d:=by obtain⟨s1,m1,c',k,m,pt,x,f,e,hh⟩:=zfA h;have h1:=hh.hdg;have h2:=hh.hsc;have h3:=hh.pos;omega
theorem ztp{p:uBi}{sh:Shape}(h:parS p=(sh,0))(h5:sh.uB=5):∃d c sg,edS p=some (d,c,sg)/\sh=yT p d c sg/\d<=18:=by
 unfold parS at h;split at h
 ·rename_i x hx;cases h;unfold zbZ at hx;split at hx
  ·cases hx;cases h5
  ·split at hx
   ·cases hx
   ·split at hx
    ·cases hx;cases h5
    ·split at hx
     ·cases hx;cases h5
     ·cases hx
 ·split at h
  ·unfold ze1 at h;split at h
   ·cases h
   ·cases h;cases h5
  ·split at h
   ·rename_i d sc sg he;unfold ze1 at h;split at h
    ·cases h
    ·rename_i hl;cases h;exact⟨d,sc,sg,he,rfl,by omega⟩
   ·cases h
theorem zfx{s:Shape}(h:chkV s=0)(h5:s.uB=5):∃n sc sg,ES s n sc sg:=by
 unfold chkV at h;by_cases hE:yN s=0
 ·rw[if_neg (fun h=>h hE),if_neg (by omega)]at h;unfold zdC at h;by_cases h1:(j9 s.uC).2=0
  ·rw[if_neg (fun h=>h h1)]at h;split at h
   ·cases h
   ·rename_i hpic;have hpic:(j9 s.uC).1.uC=s.uC:=Classical.byContradiction fun hne=>hpic hne
    obtain⟨t1,t2,t3⟩:=WN h;have t1:=of_decide_eq_false t1;have hc:(j9 s.uC).1.uB=s.uB:=Classical.byContradiction fun hne=>t1 (.inl hne)
    have hd:(j9 s.uC).1.uA=s.uA:=Classical.byContradiction fun hne=>t1 (.inr (.inl hne))
    have hs:(j9 s.uC).1.uD=s.uD:=Classical.byContradiction fun hne=>t1 (.inr (.inr (.inl hne)))
    have hg:(j9 s.uC).1.uG=s.uG:=Classical.byContradiction fun hne=>t1 (.inr (.inr (.inr hne)))
    unfold j9 at h1 hc hd hs hg hpic;clear t1 h;obtain⟨p,e,hX⟩:∃p e,exR 0 [] (items s.uC)=(p,e):=⟨_,_,rfl⟩
    rw[hX]at h1 hc hd hs hg hpic;dsimp only at h1 hc hd hs hg hpic;by_cases hx:e=0
    ·rw[if_pos hx]at h1 hc hd hs hg hpic;obtain⟨g1,g2,g3⟩:=zlf hX hx;obtain⟨sh,e',hY⟩:∃sh e',parS p=(sh,e'):=⟨_,_,rfl⟩
     rw[hY]at h1 hc hd hs hg hpic;dsimp only at h1 hc hd hs hg hpic;rw[h1]at hY;obtain⟨d,c,sg,e1,e2,e3⟩:=ztp hY (hc.trans h5);rw[e2]at hpic hd hs hg;have hpic:p=s.uC:=hpic;rw[hpic]at g1 g2 g3 e1;obtain⟨b1,b2⟩:=znB e1;refine⟨d,c,sg,⟨e1,hd.symm,hs.symm,hg.symm,b1,e3,b2,?_,g2,g1,g3,h5⟩⟩;rw[t3];unfold sizeV;rw[if_neg (by omega),if_pos (by omega)]
    ·rw[if_neg hx]at h1;exact absurd h1 hx
  ·rw[if_pos h1]at h;exact absurd h h1
 ·rw[if_pos hE]at h;exact absurd h hE
theorem zsB{c:UInt8}{p:uBi}(h:∃x∈p,x≠c):p.count c<p.length:=by
 obtain⟨x,hx,hne⟩:=h;rcases uAO (p.count c) p.length with h|h
 ·exact h
 ·have:=uAq (a:=c) (l:=p);have e:p.count c=p.length:=by omega
  exact absurd (List.count_eq_length.1 e x hx) (fun e=>hne e.symm)
theorem zrD{fl:UInt8}(hf:fl≠86):∀(f:Bool)(b:uBi),(∀x∈b,x=86)->need fl f b=0
 |_,[],_=>rfl
 |f,c::b,h=>by have hc:=h c (by simp);subst hc;unfold need;rw[if_neg (by unfold dig;simp;exact fun e=>hf e.symm),zrD hf f b (fun x hx=>h x (by simp[hx]))]
theorem zbm(b:uBi):flo b≠86:=by rcases flo_is b with h|h|h|h<;>rw[h]<;>decide
def gD(neg:Bool)(q sc:Nat):Decimal:=qQ (canon neg q sc)
theorem zoP{neg:Bool}{q sc n:Nat}(hn:n<=62)(hn1:1<=n)(hq:q<10^n)(hs:sc<=62):VD (gD neg q sc):=
 VD.of (nB (yf hn1 hq) hn) (nB (zP neg q sc) hs)
theorem zun(neg:Bool)(q sc:Nat):(gD neg q sc).uD.toNat=(canon neg q sc).2.2:=by show(((canon neg q sc).2.2:Nat):Int).toNat=_;omega
theorem ziV(neg:Bool)(q:Nat){sc:Nat}(hs:sc<=62):val (gD neg q sc).uA*10^(62+(sc:Int)).toNat=q*10^(62+(gD neg q sc).uD.toNat):=by rw[zun];show val (canon neg q sc).2.1*_=_;have h:=zcG neg q sc;rw[show(62+(sc:Int)).toNat=sc+62 by omega,uAH,<-nT,h,nT,<-uAH,uAt]
theorem zoQ{neg:Bool}{q n sc:Nat}(hs:sc<=62)(hq:q<10^n):ZU (gD neg q sc) n sc/\quo (val (gD neg q sc).uA) (gD neg q sc).uD.toNat sc=q:=by
 have hS:(gD neg q sc).uD.toNat<=62:=by rw[zun];exact nB (zP neg q sc) hs
 have hg:=ziV neg q hs;exact⟨(Qi hS (by omega) (by omega)).2 ⟨q,hq,hg⟩,zim hS (by omega) (by omega) hg⟩
theorem ztI(neg:Bool)(q sc:Nat):decide ((gD neg q sc).uA=[48])=decide (q=0):=by
 rw[decide_eq_decide];constructor
 ·intro h;refine(zfQ neg q sc).1 ?_;show val (gD neg q sc).uA=0;rw[h];rfl
 ·rintro rfl;unfold gD;rw[yc];rfl
theorem zfq(neg:Bool)(q sc:Nat):(gD neg q sc).uM=(neg&&decide (q≠0)):=zfR neg q sc
def edT(s:Shape)(n:Nat)(neg:Bool)(q:Nat):Option uBi:=zde s (neg&&decide (q≠0)) (fmt n q) (decide (q=0))
theorem zny{s:Shape}{n sc:Nat}{sg:Bool}(h:ES s n sc sg)(neg:Bool){ds:uBi}(hl:ds.length=n)(zero:Bool):
  (∃r,zde s neg ds zero=some r)/\∀w,j5 (zH (edBody s.uC)) (flS s) neg (edBody s.uC) ⟨ds,false,0,[],-1⟩=some w->w.out≠[]:=by
 have hn:=zfz h.ed;obtain⟨w,hw⟩:=zgN (zH (edBody s.uC)) (flS s) neg (edBody s.uC) ⟨ds,false,0,[],-1⟩ (by show need (flo _) false _<=ds.length;omega);constructor
 ·unfold zde;rw[hw];split
  ·exact⟨_,rfl⟩
  ·split
   ·exact⟨_,rfl⟩
   ·exact⟨_,rfl⟩
 ·intro w' hw';rcases wrun_out _ _ _ _ _ _ hw' with h1|h1
  ·intro e;rw[e]at h1;have h2:(edBody s.uC).count 86<(edBody s.uC).length:=by refine zsB (Classical.byContradiction fun hne=>?_);have:=zrD (zbm (edBody s.uC)) false (edBody s.uC) (fun x hx=>Classical.byContradiction fun he=>hne ⟨x,hx,he⟩);have:=h.n1;omega
   have h1:0+(edBody s.uC).count 86=0+(edBody s.uC).length:=h1;omega
  ·exact absurd h1 (zbm _)
theorem znA{N:Nat}(hN:3000<N){s:Shape}{n sc:Nat}{sg:Bool}(h:ES s n sc sg)(neg:Bool){q:Nat}(hq:q<10^n):∃r,edT s n neg q=some r/\KS N (gD neg q sc) s=some r:=by
 have h18:=h.n18;have h1:=h.n1;have h2:=h.scn;obtain⟨⟨r,hr⟩,hw⟩:=zny h (neg&&decide (q≠0)) (jg n q) (decide (q=0));obtain⟨f1,f2⟩:=zoQ (neg:=neg) (n:=n) (sc:=sc) (by omega) hq;refine⟨r,hr,zsn hN (by have:=h.len;omega) (fun c hc=>zgW (h.sy c hc)) h.dig h1 (by omega) (by rw[h.scl];omega) (by rw[h.scl];omega) (by rw[h.siz];omega) ?_ (zoP (n:=n) (by omega) h1 hq (by omega)) ?_ ?_ ?_⟩
 ·rw[h.siz];have:=h.len;unfold szN;omega
 ·rw[h.scl];exact f1
 ·rw[h.scl,f2,zfq,ztI];exact hr
 ·rw[h.scl,f2,zfq];exact hw
theorem zhb{v n:Nat}{l:uBi}(hv:v<=val l)(hd:Digs l)(hl:l.length<=n):v<10^n:=
 Nat.lt_of_le_of_lt hv (uAA (jW hd) (nN (by decide) hl))
def Qy(d:Decimal)(sc:Nat):Decimal:=gD d.uM (val d.uA/10^(d.uD.toNat-sc)*10^(d.uD.toNat-sc)) d.uD.toNat
theorem zqp{N:Nat}(hN:3000<N){d:Decimal}(hd:VD d){sc:Nat}(hs:sc<=62):∃t,zlx N d (sc:Int)=some (Qy d sc,t,0):=by
 obtain⟨x,e,h1,h2,h3⟩:=zjj hN hd (s:=(sc:Int)) (by omega) (by omega);have hf:=hd.form;obtain⟨g1,g2,g3,g4,g5,_⟩:=hd;refine⟨decide (val d.uA%10^(d.uD-(sc:Int)).toNat=0),?_⟩;rw[h1];by_cases h:d.uD<=(sc:Int)
 ·obtain⟨rfl,rfl⟩:=h2 h;unfold Qy gD;rw[show x.uD.toNat-sc=0 by omega,nJ,Nat.div_one,mR,hf]
 ·obtain⟨m,hm,hx⟩:=h3 (by omega);have ek:(d.uD-(sc:Int)).toNat=d.uD.toNat-sc:=by omega
  rw[ek]at hm;have hv:val (d.uA.take (d.uA.length-m)++List.replicate m 48)=val d.uA/10^(d.uD.toNat-sc)*10^(d.uD.toNat-sc):=by
   rw[yC,(jw g2 (by omega)).1];rcases uAO d.uA.length (d.uD.toNat-sc)with hlt|hge
   ·have hm':m=d.uA.length:=by omega
    rw[hm',Nat.div_eq_of_lt (jW g2),Nat.div_eq_of_lt (zhb (mK _) g2 (by omega)),Nat.zero_mul,Nat.zero_mul]
   ·have hm':m=d.uD.toNat-sc:=by omega
    rw[hm']
  have e0:(-d.uD).toNat=0:=by omega
  have hn:nrm d.uM (d.uA.take (d.uA.length-m)++List.replicate m 48) d.uD=(Qy d sc,0):=by
   rw[WV,hv,e0,nJ,mR]
   ·rfl
   ·rw[hv,e0,nJ,mR];refine yf (by decide) (zhb (Nat.div_mul_le_self _ _) g2 g3)
   ·exact nB (zP _ _ _) (by omega)
  rw[hn]at hx;cases hx;rfl
theorem zsA{d:Decimal}(hd:VD d){sc:Nat}(hs:sc<=62):VD (Qy d sc)/\exact (val (Qy d sc).uA) (Qy d sc).uD.toNat sc/\quo (val (Qy d sc).uA) (Qy d sc).uD.toNat sc=quo (val d.uA) d.uD.toNat sc:=by
 obtain⟨g1,g2,g3,g4,g5,_⟩:=hd;obtain⟨S,hS⟩:∃S,S=d.uD.toNat:=⟨_,rfl⟩
 obtain⟨v,hv⟩:∃v,v=val d.uA:=⟨_,rfl⟩
 have hS62:S<=62:=by omega
 have hvd:VD (Qy d sc):=VD.of (yf (by decide) (zhb (Nat.div_mul_le_self _ _) g2 g3)) (nB (zP _ _ _) (by omega));have hg:=ziV d.uM (v/10^(S-sc)*10^(S-sc)) hS62;have hc:Qy d sc=gD d.uM (v/10^(S-sc)*10^(S-sc)) S:=by rw[hS,hv];rfl
 rw[<-hc]at hg;have key:val (Qy d sc).uA*10^(62+(sc:Int)).toNat=quo v S sc*10^(62+(Qy d sc).uD.toNat):=by
  refine uAG (pow_pos S) ?_;have e1:10^(62+(sc:Int)).toNat*10^S=10^(62+(S:Int)).toNat*10^sc:=by rw[<-uAH,<-uAH];congr 1;omega
  rw[nT,e1,<-nT,hg,nT,uA4 (10^(62+_)),<-nT,nT (quo v S sc),uA4 (10^(62+_)) (10^S),<-nT];congr 1;unfold quo;rw[show((S:Int)-(sc:Int)).toNat=S-sc by omega,show((sc:Int)-(S:Int)).toNat=sc-S by omega];rcases Nat.le_total S sc with h|h
  ·rw[show S-sc=0 by omega,nJ,Nat.div_one,Nat.div_one,mR,nT,<-uAH,show sc-S+S=sc by omega]
  ·rw[show sc-S=0 by omega,nJ,mR,nT,<-uAH,show S-sc+sc=S by omega]
 have hS':(Qy d sc).uD.toNat<=62:=by have:=hvd.2.2.2.2.1;omega
 rw[<-hS,<-hv];exact⟨hvd,((Qi (n:=quo v S sc) hS' (by omega) (by omega)).2 ⟨_,Kx _,key⟩).1,zim hS' (by omega) (by omega) key⟩
theorem ztn{N:Nat}(hN:3000<N){d:Decimal}(hd:VD d){n sc:Nat}(h1:1<=n)(h18:n<=62)(hs:sc<=62)(he:exact (val d.uA) d.uD.toNat sc):
  zkn N d (n:Int) (sc:Int)=some (gD d.uM (quo (val d.uA) d.uD.toNat sc%10^n) sc,0):=by
 obtain⟨t,e1,e2,e3,e4,e5⟩:=(Vt hN hd (n:=n) (s:=sc) (by omega) (by omega) (by omega)).1 he;have hl:d.uA.length<=1000:=by have:=hd.2.2.1;omega
 unfold zkn;rw[zb9 hN hl h1 h18 (by omega) (by omega),if_pos hd,zc,zf,if_pos rfl,e1,zc];dsimp only;have hin:zj ((t.length:Int)-(n:Int)) (t.length:Int) t.length=true:=by unfold zj;simp<;>omega
 have hv:val (t.drop (t.length-n))=quo (val d.uA) d.uD.toNat sc%10^n:=by rw[(jw e2 e4).2,e3]
 have hlt:quo (val d.uA) d.uD.toNat sc%10^n<10^n:=uAS _ (pow_pos n);have hne:t.drop (t.length-n)≠[]:=by intro h;have:=congrArg List.length h;rw[mL,uA1]at this;omega
 have e0:(-(sc:Int)).toNat=0:=by omega
 rw[nE,cond_false,zg (by omega) (by omega),za,hin,za,VT _ e4,zbA hN _ (e2.drop _) hne (by rw[mL];omega) (by omega) (by omega),zc,WV,hv,e0,nJ,mR,mQ]
 ·rfl
 ·rw[hv,e0,nJ,mR];exact nB (yf h1 hlt) h18
 ·exact nB (zP _ _ _) (by omega)
def Y4(d:Decimal)(n sc:Nat):Nat:=quo (val d.uA) d.uD.toNat sc%10^n
theorem zf8{N:Nat}(hN:3000<N){s:Shape}{n sc:Nat}{sg:Bool}(h:ES s n sc sg)(hc:chkV s=0){d:Decimal}(hd:VD d):
  ∃r,edT s n d.uM (Y4 d n sc)=some r/\zbQ N d s=some (r,0):=by
 have h18:=h.n18;have h1:=h.n1;have h2:=h.scn;have hlt:Y4 d n sc<10^n:=uAS _ (pow_pos n);obtain⟨c1,c2,c3⟩:=zsA hd (sc:=sc) (by omega);have hn:(Qy d sc).uM=d.uM\/quo (val (Qy d sc).uA) (Qy d sc).uD.toNat sc=0:=by
  have e:(Qy d sc).uM=_:=zfq _ _ _;by_cases h0:val d.uA/10^(d.uD.toNat-sc)*10^(d.uD.toNat-sc)=0
  ·right;have:val (Qy d sc).uA=0:=by unfold Qy;rw[h0];exact (zfQ _ _ _).2 rfl
   unfold quo;rw[this,Nat.zero_mul,Nat.zero_div]
  ·left;rw[e,decide_eq_true h0,uAs]
 have hg:gD (Qy d sc).uM (Y4 d n sc) sc=gD d.uM (Y4 d n sc) sc:=by
  rcases hn with e|e
  ·rw[e]
  ·have:Y4 d n sc=0:=by unfold Y4;rw[<-c3,e,Nat.zero_mod]
   rw[this];unfold gD;rw[yc,yc]
 obtain⟨r,e1,e2⟩:=znA hN h d.uM hlt;refine⟨r,e1,?_⟩;obtain⟨t,ht⟩:=zqp hN hd (sc:=sc) (by omega);have hk:XW s 5=0:=by unfold XW;rw[if_neg (fun e=>e hc),if_neg (fun e=>e h.cat)]
 unfold zbQ;rw[zfD (by omega) (by have:=h.len;omega),hk,zc,zf,if_pos rfl,h.scl,ht,zc];dsimp only;rw[zf,if_pos rfl,h.dig,ztn hN c1 h1 (by omega) (by omega) c2,zc];dsimp only;rw[zf,if_pos rfl,c3,show quo (val d.uA) d.uD.toNat (sc:Int)%10^n=Y4 d n sc from rfl,hg,e2,zc,clip_is,zc]
end Go.Proofs.C06
end
