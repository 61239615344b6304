/-
  A part of the proof of the laws.
-/
import Derived.Test.YtannhfbidakffaaGreatDoorEa
import Derived.Test.YtannhfbidakffaaGreatDoorUa
import Derived.Test.YtannhfbidakffaaGreatDoorPc
set_option maxRecDepth 100000
namespace Go.Proofs.C06
open Go Go.RowKit Go.Vc Go.Am Go.Dg
def zeu(c:UInt8):UInt8:=if c=46 then 46 else 42
def JD:uAU->uAU
 |[]=>[]
 |c::r=>if c=86 then JD r else zeu c::JD r
theorem zkC(N:Nat)(c:UInt8):zio N (c.toNat:Int)=some (if c=86 then-1 else((zeu c).toNat:Int)):=by
 unfold zio zeu;have j:((c.toNat:Int)=86)↔c=86:=Ju c 86 dE;have B:((c.toNat:Int)=46)↔c=46:=Ju c 46 dE;rw[zb,zb];by_cases h:c=86
 ·grind
 ·rw[if_neg (fun e=>h (j.1 e)),if_neg h];by_cases H:c=46
  ·grind
  simp_all
theorem znZ(c:UInt8):(zeu c).toNat<128:=by unfold zeu;split<;>decide
theorem Yq{N:Nat}(s:uAU)(H:s.length<=400)(ha:∀c∈s,c.toNat<128):∀(n i:Nat)(out:uAU),i<=s.length->s.length-i<n->out.length<=401+i->
  yL N n s i out=some (out++JD (s.drop i))
 |0,i,out,_,h,_=>oM
 |n+1,i,out,hi,h,ho=>by
  show Qt N (yL N n) s i out=_;unfold Qt;by_cases B:i<s.length
  ·have hc:=ha _ (W8 B);rw[show Nat.blt i s.length=true from mY B,cond_true,JJ hc,zkC,zc,ZZ hc,jq B,JD,zb];by_cases j:s.getD i 0=86
   ·rw[if_pos j,if_neg dE,if_pos j];exact Yq s H ha n (i+1) out oM oM oM
   ·have I:=znZ (s.getD i 0);rw[if_neg j,if_pos oM,if_neg j,zb,if_pos oM,zgV oM oM];unfold Wd;rw[yG,Bool.and_true,za,List.map_singleton,yw,Zn (by simp;omega),za,zc,Yq s H ha n (i+1) _ oM oM (by simp;omega),mR];rfl
  ·rw[show Nat.blt i s.length=false from Bool.eq_false_iff.2 (fun e=>B (mQ e)),cond_false,List.drop_eq_nil_of_le oM];unfold Vu;rw[decide_eq_true oM,za,zc];simp[JD]
theorem Vr{N:Nat}(hN:1000<N)(s:uAU)(hs:s.length<=400)(ha:∀c∈s,c.toNat<128):∀(n i:Nat),i<=s.length->s.length-i<n->
  yM N n s s i=some (s.take i++JD (s.drop i))
 |0,i,_,h=>oM
 |n+1,i,hi,h=>by
  show Qu N (yM N n) s s i=_;unfold Qu;by_cases B:i<s.length
  ·have hc:=ha _ (W8 B);have U:Yy ((s.getD i 0).toNat:Int)=some 1:=by
    unfold Yy Lib.runeLen
    grind
   have hg:zbK N ((s.length:Int)+4)=some []:=by
    unfold zbK;rw[decide_eq_false oM,cond_false,decide_eq_true oM,cond_true];have:XS ((s.length:Int)+4)=true:=by rw[show((s.length:Int)+4)=Int.ofNat (s.length+4)from rfl];unfold XS;simp only[mY (show 1<=s.length+4 by omega),mY (show s.length+4<=281474976710656 by omega)];rfl
    simp_all
   have Z:JS N (jy s (i:Int)) []=some ((((jy s (i:Int)).length:Nat):Int),s.take i):=by unfold JS;have ht:jy s (i:Int)=s.take i:=rfl;rw[ht,uAH,Zn (by rw[mI];omega),za]
   have Y:∀(O:Int)(out:uAU),(O= -1/\out=s.take i\/∃u:UInt8,u.toNat<128/\O=(u.toNat:Int)/\out=s.take i++[u])->Jc N (yM N n) s (i:Int) ((s.getD i 0).toNat:Int) O s (i+1)=some (out++JD (s.drop (i+1))):=by
    intro O out S;have fin:∀out:uAU,out.length<=401->yL N N (zO s ((i:Int)+1)) 0 out=some (out++JD (s.drop (i+1))):=fun out ho=>by
     rw[show((i:Int)+1)=((i+1:Nat):Int)by omega,zd6];have:=Yq (N:=N) (s.drop (i+1)) (by rw[mP];omega) (fun c hc=>ha c (List.mem_of_mem_drop hc)) N 0 out oM (by rw[mP];omega) oM
     grind
    have I:inKb .i64 ((i:Int)+1)=true:=zh oM oM;have J:zk ((i:Int)+1) (s.length:Int) s.length=true:=zt.2 ⟨oM,oM,oM⟩;unfold Jc;rw[zb,if_neg oM,U,zc,zh oM oM,za,hg,zc,zt.2 ⟨oM,oM,oM⟩,za,Z,zc];dsimp only;rcases S with⟨rfl,rfl⟩|⟨u,hu,rfl,rfl⟩
    ·rw[decide_eq_false dE,cond_false,I,za,J,za];unfold ziO;rw[zc]
     grind
    ·rw[decide_eq_true oM,cond_true];unfold zca Wh;rw[show IntKind.wrap .u32 (u.toNat:Int)=(u.toNat:Int)from zbT ⟨by show(0:Int)<=_;omega,by show _<=(4294967295:Int);omega⟩,zb,if_pos oM,zgV oM oM,yG,Bool.and_true,za,List.map_singleton,yw,
      Zn (by simp;omega),za,zc,zh (by simp;omega) (by simp;omega),za,zc,I,za,J,za]
     unfold ziO;rw[zc]
     grind
   rw[show Nat.blt i s.length=true from mY B,cond_true,JJ hc,zkC,zc,ZZ hc,jq B,JD,zb];by_cases H:s.getD i 0=86
   ·grind
   ·rw[if_neg H,if_neg H];by_cases j:zeu (s.getD i 0)=s.getD i 0
    ·rw[if_pos (by rw[j]),decide_eq_false oM,uAS,cond_true,Vr hN s hs ha n (i+1) oM oM,j];rw[List.take_add_one,mR]
     grind
    ·rw[if_neg (fun e=>j (UInt8.toNat_inj.1 oM))];have:=Y _ _ (.inr ⟨zeu (s.getD i 0),znZ _,rfl,rfl⟩)
     grind
  ·rw[show Nat.blt i s.length=false from Bool.eq_false_iff.2 (fun e=>B (mQ e)),cond_false,List.drop_eq_nil_of_le oM,nQ oM];simp[JD]
theorem zoF{N:Nat}(B:1000<N){s:uAU}(j:s.length<=400)(ha:∀c∈s,c.toNat<128):zcr N s=some (JD s):=by unfold zcr;have:=Vr B s j ha N 0 oM oM;simpa using this
def zxG(fl:UInt8)(b set:uAU):Bool:=b.all fun c=>!dig fl c||set.contains c
def flS(s:Shape):UInt8:=flo (edBody s.uD)
def zeg(s:Shape):Bool:=s.uJ||zxG (flS s) (edBody s.uD) ([90]++if flS s=0 then[]else[flS s])
def zin(s:Shape)(neg:Bool)(j:uAU)(zero:Bool):Option uAU:=if zero=true/\zeg s=true then some (List.replicate s.uE.toNat 32)else if zero=true/\zxG (flS s) (edBody s.uD) [42]=true then some (JD s.uD)else zhB (zkY (flS s) neg (jK s.uD)) (zbR (jC (edBody s.uD)) (flS s) neg (edBody s.uD) ⟨j,false,0,[],-1⟩)
theorem flo_is(b:uAU):flo b=0\/flo b=36\/flo b=43\/flo b=45:=by
 unfold flo
 grind
theorem zrV(p:uAU):(jK p).length<=2:=by
 unfold jK
 grind
theorem zrX(p:uAU):(edBody p).length<=p.length:=by
 unfold edBody
 grind
theorem zyC{N:Nat}(hN:3000<N){s:Shape}(hp:s.uD.length<=400)(ha:∀c∈s.uD,c.toNat<128){n:Nat}(hn:s.uA=(n:Int))(h1:1<=n)(h2:n<=62)(hs1: -62<=s.uB)(S:s.uB<=62)(hz1:0<=s.uE)(hz2:s.uE<=1000)
  {d:Decimal} (hd:VD d) (hf:Jl d n s.uB) {r:uAU} (j:zin s d.uI (fmt n (quo (val d.uA) d.uB.toNat s.uB)) (decide (d.uA=[48]))=some r)
  (Z:∀w,zbR (jC (edBody s.uD)) (flS s) d.uI (edBody s.uD) ⟨fmt n (quo (val d.uA) d.uB.toNat s.uB),false,0,[],-1⟩=some w->w.out≠[]):zkG N d s=some r:=by
 have I:(edBody s.uD).length<=400:=nD (zrX _) hp;have J:(jK s.uD).length<=10:=nD (zrV _) dE;unfold zkG;rw[zD2 oM hp,zc];obtain⟨z,hz⟩:∃z,decide (d.uA=([48]:uAU))=z:=⟨_,rfl⟩
 rw[hz]at j⊢;have only:=fun set=>zyA (N:=N) oM (t:=jK s.uD) (flS s) set I
 have k1:∀t:Bool,(t=true->some (JD s.uD)=some r)->(t=false->zhB (zkY (flS s) d.uI (jK s.uD)) (zbR (jC (edBody s.uD)) (flS s) d.uI (edBody s.uD) ⟨fmt n (quo (val d.uA) d.uB.toNat s.uB),false,0,[],-1⟩)=some r)->Xo N t d s (zq7 s)=some r:=by
  intro t Y ht2;unfold Xo;cases t
  ·have hw:=ht2 rfl;obtain⟨w,H,rfl⟩:=zfH hw;have B:(fmt n (quo (val d.uA) d.uB.toNat s.uB)).length<=1000:=by rw[zM];omega
   obtain⟨q,hq1,hq2⟩:=zui (N:=N) I J oM _ B H (Z w H) 0;rw[cond_false,hn,zhp hN hd h1 h2 hs1 S,if_pos hf,zc];show bnd (zdm N (edBody s.uD) (jK s.uD) ((flS s).toNat:Int) _ d.uI false 0 0) _=_;simp_all
  ·rw[cond_true,zoF oM hp ha,zc];exact Y rfl
 have k0:∀t:Bool,t=(z&&zeg s)->YO N z t d s (zq7 s)=some r:=by
  intro t ht;unfold YO zin at*
  cases t
  ·have hb:¬(z=true/\zeg s=true):=by rintro⟨e1,e2⟩;rw[e1,e2]at ht;cases ht
   rw[if_neg hb]at j;rw[cond_false];cases z
   ·rw[cond_false];rw[if_neg (by rintro⟨e,_⟩;cases e)]at j;exact k1 false (fun e=>by cases e) (fun _=>j)
   ·rw[cond_true];show bnd (zkE N (picture.mk (edBody s.uD) (jK s.uD) ((flS s).toNat:Int)) [42]) _=_;rw[only,zc];refine k1 _ (fun e=>?_) (fun e=>?_)
    ·rwa [if_pos ⟨rfl,e⟩]at j
    ·rwa [if_neg (by rintro⟨_,e'⟩;unfold zxG at e';rw[e]at e';cases e')]at j
  ·have hb:z=true/\zeg s=true:=by simpa using ht.symm
   rw[if_pos hb]at j;obtain⟨k,hk⟩:=Int.eq_ofNat_of_zero_le hz1;rw[cond_true,hk];have:zjA ([32].map toByte) (k:Int)=some (List.replicate k 32):=by show chk (decide ((0:Int)<=k)&&decide ((k:Int)<=140737488355328)) _=_;rw[decide_eq_true oM,decide_eq_true oM];rfl
   rw[this,zc,<-j,hk];rfl
 cases z
 ·grind
 ·rw[cond_true];cases hbk:s.uJ with
  |true=>rw[cond_true];exact k0 true (by unfold zeg;rw[hbk];rfl)
  |false=>
   rw[cond_false];have O:JE ([(zq7 s).float].map toByte) [0]=some (if flS s=0 then[]else[flS s]):=by show JE ([((flS s).toNat:Int)].map toByte) [0]=_;rw[List.map_singleton,yw];rcases flo_is (edBody s.uD)with h|h|h|h<;>(unfold flS;rw[h];rfl)
   have hfu:inKb .u8 (zq7 s).float=true:=yG (flS s);have U:zY ([90]:uAU) (if flS s=0 then[]else[flS s])=true:=XA.2 (by split<;>simp);rw[hfu,Bool.and_true,za,O,zc,U,za];show bnd (zkE N (picture.mk (edBody s.uD) (jK s.uD) ((flS s).toNat:Int)) _) _=_;rw[only,zc];exact k0 _ (by unfold zeg;rw[hbk];rfl)
section
def need(fl:UInt8):Bool->uAU->Nat
 |_,[]=>0
 |fst,c::b=>if dig fl c=true then(if c=fl/\fst=false then need fl true b else need fl fst b+1)else need fl fst b
theorem zbV(j c:UInt8)(r:Bool)(w:WS):(yU j c r w).fst=w.fst:=by unfold yU;split<;>rfl
theorem zjH(H fl:UInt8)(neg:Bool):∀(b:uAU)(w:WS),need fl w.fst b<=w.ds.length->∃w',zbR H fl neg b w=some w'
 |[],w,_=>⟨w,rfl⟩
 |c::b,w,h=>by
  have step:∃j,zau H fl neg c w=some j/\need fl j.fst b<=j.ds.length:=by
   unfold need at h;unfold zau;by_cases O:dig fl c=true
   ·rw[if_pos O]at h⊢;unfold zgW;by_cases J:c=fl/\w.fst=false
    ·rw[if_pos J]at h⊢;refine⟨_,rfl,?_⟩;rw[zbV,(ql _ _ _ _).2];exact h
    ·rw[if_neg J]at h⊢;cases hds:w.ds with
     |nil=>rw[hds]at h;simp at h
     |cons d r=>refine⟨_,rfl,?_⟩;rw[zbV,(ql _ _ _ _).2];rw[hds,mM]at h;exact Nat.le_of_succ_le_succ h
   ·rw[if_neg O]at h⊢;by_cases I:c=86
    ·grind
    ·rw[if_neg I];by_cases B:c=46
     ·rw[if_pos B];refine⟨_,rfl,?_⟩;rw[zbV,(ql _ _ _ _).2];exact h
     ·rw[if_neg B];refine⟨_,rfl,?_⟩;rw[zbV,(ql _ _ _ _).2];exact h
  obtain⟨j,S,Z⟩:=step;obtain⟨U,Y⟩:=zjH H fl neg b j Z;exact⟨U,by unfold zbR;rw[S];exact Y⟩
theorem wrun_out(I fl:UInt8)(neg:Bool):∀(b:uAU)(w w':WS),zbR I fl neg b w=some w'->w'.out.length+b.count 86=w.out.length+b.length\/fl=86
 |[],w,w',h=>by cases h;exact .inl rfl
 |c::b,w,w',h=>by
  unfold zbR at h;split at h
  ·rename_i J j;rcases wrun_out I fl neg b J w' h with B|B
   ·by_cases H:fl=86
    ·exact .inr H
    ·left;unfold zau at j;rw[List.count_cons,mM];split at j
     ·rename_i O;have:=(znv j).1;have hc:c≠86:=fun e=>by
       subst e;unfold dig at O
       grind
      grind
     ·split at j
      ·grind
      ·rename_i hc;rw[show(c==86)=false by simpa using hc,if_neg dE];split at j
       ·cases j;rw[(ql _ _ _ _).1]at B
        grind
       ·cases j;rw[(ql _ _ _ _).1]at B;omega
   ·exact .inr B
  ·cases h
theorem zke(fl:UInt8):∀b:uAU,need fl true b=b.countP (dig fl)
 |[]=>rfl
 |c::b=>by
  unfold need;rw[List.countP_cons,zke fl b]
  grind
theorem ziu(fl:UInt8):dig fl fl=true:=by unfold dig;simp
theorem zhH(fl:UInt8):∀b:uAU,need fl false b+(if b.contains fl=true then 1 else 0)=b.countP (dig fl)
 |[]=>rfl
 |c::b=>by
  unfold need;rw[List.countP_cons,List.contains_cons];by_cases hc:c=fl
  ·subst hc;rw[if_pos (ziu c),if_pos ⟨rfl,rfl⟩,zke,ziu];simp
  ·have j:=zhH fl b
   grind
theorem zDZ{b:uAU}(a:UInt8)(ha:a=36\/a=43\/a=45)(h:1<b.count a)(j:∀x:UInt8,(x=43\/x=45)->x≠a->b.count x<=1):flo b=a:=by
 unfold flo
 grind
theorem zyh{b:uAU}(h:∀x:UInt8,(x=36\/x=43\/x=45)->b.count x<=1):flo b=0:=by
 unfold flo
 grind
section
variable {sg0 : Nat} {q : uAU} {dg sc : Nat} {sn : Bool} {s1 m1 : uAU} {c : UInt8} {k m : Nat} {pt : uAU} {x : UInt8} {f : Nat} {e : uAU}
theorem zd9(a u:UInt8)(n:Nat):(List.replicate n u).count a=if u=a then n else 0:=by
 grind
def zjt(c:UInt8)(k:Nat):Prop:=0<k/\(c=36\/c=43\/c=45)
instance(c:UInt8)(k:Nat):Decidable (zjt c k):=by unfold zjt;infer_instance
theorem EdF.two(h:EdF sg0 q dg sc sn s1 m1 c k m pt x f e)(j:zjt c k):2<=k:=by
 rcases h.run with r|r|r|r
 ·have:=j.1;omega
 ·rcases j.2 with e|e|e<;>rw[r]at e<;>simp at e
 ·rcases j.2 with e|e|e<;>rw[r]at e<;>simp at e
 ·exact r.1
theorem EdF.cnt(h:EdF sg0 q dg sc sn s1 m1 c k m pt x f e){a:UInt8}(ha:a=36\/a=43\/a=45):q.count a=s1.count a+(m1.count a+((if c=a then k else 0)+((if x=a then f else 0)+e.count a))):=by
 rw[h.eq,List.count_append,List.count_append,List.count_append,List.count_append,List.count_append,List.count_append,zd9,zd9,zd9];have j:(if(57:UInt8)=a then m else 0)=0:=if_neg (by rcases ha with rfl|rfl|rfl<;>decide);have hp:pt.count a=0:=by rcases h.hpt with⟨r,_⟩|⟨r,_⟩|r<;>rw[r]<;>rcases ha with rfl|rfl|rfl<;>decide
 rw[j,hp];omega
theorem EdF.low(h:EdF sg0 q dg sc sn s1 m1 c k m pt x f e){a:UInt8}(ha:a=36\/a=43\/a=45)(O:¬(0<k/\c=a)):q.count a<=1:=by
 rw[h.cnt ha];have H:(if c=a then k else 0)=0:=by
  grind
 have I:(if x=a then f else 0)=0:=by
  split
  ·rename_i e;rcases Nat.eq_zero_or_pos f with j|j
   ·exact j
   ·rcases h.fx j with r|⟨_,⟨r1,S⟩|⟨_,r⟩⟩
    ·grind
    ·grind
    grind
  ·rfl
 have Y:=List.count_le_length (a:=a) (l:=s1);have h4:=List.count_le_length (a:=a) (l:=e);have J:=h.hsg;rw[H,I];rcases ha with rfl|rfl|rfl
 ·have Z:s1.count 36=0:=by rcases h.hs1 with r|r|r<;>rw[r]<;>decide
  have U:e.count 36=0:=by rcases h.he with r|r|r<;>rw[r]<;>decide
  have B:m1.count 36<=1:=by rcases h.hm1 with r|r<;>rw[r]<;>decide
  omega
 ·have B:m1.count 43=0:=by rcases h.hm1 with r|r<;>rw[r]<;>decide
  omega
 ·have B:m1.count 45=0:=by rcases h.hm1 with r|r<;>rw[r]<;>decide
  omega
theorem EdF.flo(h:EdF sg0 q dg sc sn s1 m1 c k m pt x f e):flo q=if zjt c k then c else 0:=by
 by_cases j:zjt c k
 ·rw[if_pos j];refine zDZ c j.2 ?_ (fun y B I=>h.low (by rcases B with r|r<;>simp[r]) (fun H=>I H.2.symm));rw[h.cnt j.2,if_pos rfl];have:=h.two j;omega
 ·rw[if_neg j];exact zyh fun y B=>h.low B (fun H=>j ⟨H.1,by rw[H.2];exact B⟩)
theorem zbD(p:UInt8->Bool)(u:UInt8)(n:Nat):(List.replicate n u).countP p=if p u=true then n else 0:=by rw[List.countP_replicate]
theorem EdF.need(h:EdF sg0 q dg sc sn s1 m1 c k m pt x f e):need (C06.flo q) false q=dg:=by
 have H:=h.flo;obtain⟨fl,hfd⟩:∃fl,C06.flo q=fl:=⟨_,rfl⟩
 rw[hfd]at H⊢;have hn:=zhH fl q;have O:=h.hsg;have key:q.countP (dig fl)=k+m+f:=by
  rw[h.eq,List.countP_append,List.countP_append,List.countP_append,List.countP_append,List.countP_append,List.countP_append,zbD,zbD,zbD];have e1:s1.countP (dig fl)=0:=by
   rw[H];by_cases B:zjt c k
   ·rw[if_pos B];rcases B.2 with r|r|r
    ·rw[r];rcases h.hs1 with r|r|r<;>rw[r]<;>decide
    ·rw[if_pos ⟨B.1,.inl r⟩]at O
     grind
    ·rw[if_pos ⟨B.1,.inr r⟩]at O
     grind
   ·rw[if_neg B];rcases h.hs1 with r|r|r<;>rw[r]<;>decide
  have e2:e.countP (dig fl)=0:=by
   rw[H];by_cases B:zjt c k
   ·rw[if_pos B];rcases B.2 with r|r|r
    ·rw[r];rcases h.he with r|r|r<;>rw[r]<;>decide
    ·rw[if_pos ⟨B.1,.inl r⟩]at O
     grind
    ·rw[if_pos ⟨B.1,.inr r⟩]at O
     grind
   ·rw[if_neg B];rcases h.he with r|r|r<;>rw[r]<;>decide
  have e3:m1.countP (dig fl)=0:=by
   rw[H];rcases h.hm1 with r|r
   ·rw[r];rfl
   ·by_cases B:zjt c k
    ·rw[if_pos B,r];rcases B.2 with I|I|I
     ·exact (h.dol r B.1 I).elim
     ·rw[I];decide
     ·rw[I];decide
    ·rw[if_neg B,r];decide
  have e4:pt.countP (dig fl)=0:=by
   have:∀y:UInt8,(y=36\/y=43\/y=45\/y=0)->pt.countP (dig y)=0:=fun y j=>by rcases h.hpt with⟨r,_⟩|⟨r,_⟩|r<;>rw[r]<;>rcases j with rfl|rfl|rfl|rfl<;>decide
   refine this fl ?_;rw[H];by_cases B:zjt c k
   ·rw[if_pos B];rcases B.2 with r|r|r<;>simp[r]
   grind
  have e5:(if dig fl c=true then k else 0)=k:=by
   rcases Nat.eq_zero_or_pos k with J|J
   ·grind
   ·refine if_pos ?_;rcases h.run with r|r|r|r
    ·omega
    ·rw[r];unfold dig;simp
    ·rw[r];unfold dig;simp
    ·rw[H,if_pos ⟨J,r.2⟩];exact ziu c
  have e6:(if dig fl 57=true then m else 0)=m:=if_pos (by unfold dig;simp);have e7:(if dig fl x=true then f else 0)=f:=by
   rcases Nat.eq_zero_or_pos f with J|J
   ·grind
   ·refine if_pos ?_;rcases h.fx J with r|⟨_,⟨r1,I⟩|⟨_,r⟩⟩
    ·rw[r];unfold dig;simp
    ·grind
    ·rcases r with r|r<;>(rw[r];unfold dig;simp)
  grind
 rw[key]at hn;have U:=h.hdg;by_cases B:zjt c k
 ·have Y:dg=k-1+m+f:=by rw[U,if_pos (show 0<k/\(c=36\/c=43\/c=45)from B)]
  have S:q.contains fl=true:=by
   rw[H,if_pos B];have:=h.cnt B.2;rw[if_pos rfl]at this;have h2:=h.two B
   grind
  rw[S,if_pos rfl]at hn;have:=B.1;omega
 ·have Y:dg=k+m+f:=by rw[U,if_neg (show¬(0<k/\(c=36\/c=43\/c=45))from B)]
  have S:¬q.contains fl=true:=by
   rw[H,if_neg B];intro J;have J:(0:UInt8)∈q:=by simpa using J
   have Z:∀y∈q,y≠0:=by
    intro y j;rw[h.eq]at j;simp only[mU,List.mem_replicate]at j;rcases j with j|j|j|j|j|j|j
    ·rcases h.hs1 with r|r|r<;>rw[r]at j<;>simp at j<;>rw[j]<;>decide
    ·rcases h.hm1 with r|r<;>rw[r]at j<;>simp at j<;>rw[j]<;>decide
    ·rcases h.run with r|r|r|r
     ·omega
     ·grind
     ·grind
     grind
    ·rw[j.2];decide
    ·rcases h.hpt with⟨r,_⟩|⟨r,_⟩|r<;>rw[r]at j<;>simp at j<;>rw[j]<;>decide
    ·have hf0:0<f:=oM
     rcases h.fx hf0 with r|⟨_,⟨r1,I⟩|⟨_,r⟩⟩
     ·grind
     ·rcases h.run with r|r|r|r
      ·omega
      ·rw[j.2,I,r];decide
      ·rw[j.2,I,r];decide
      ·rw[j.2,I];rcases r.2 with r|r|r<;>rw[r]<;>decide
     grind
    ·rcases h.he with r|r|r<;>rw[r]at j<;>simp at j<;>rw[j]<;>decide
   exact Z 0 J rfl
  grind
end
theorem VX{b:uAU}{a:UInt8}(ha:Y4 a=false):(noIns b).count a=b.count a:=by unfold noIns;simp_all
theorem zvs(b:uAU):flo (noIns b)=flo b:=by unfold flo;rw[VX (by rfl),VX (by rfl),VX (by rfl)]
theorem X2{fl:UInt8}(j:fl=0\/fl=36\/fl=43\/fl=45):∀(fst:Bool)(b:uAU),need fl fst (noIns b)=need fl fst b
 |fst,[]=>rfl
 |fst,c::b=>by
  rw[zbl];cases hi:Y4 c with
  |true=>
   rw[if_pos rfl,X2 j fst b];have B:dig fl c=false:=by
    have:c=66\/c=48\/c=47\/c=44:=by
     unfold Y4 at hi
     grind
    rcases j with rfl|rfl|rfl|rfl<;>rcases this with rfl|rfl|rfl|rfl<;>decide
   show _=if dig fl c=true then _ else _
   rw[B,if_neg dE]
  |false=>rw[if_neg dE];unfold need;rw[X2 j true b,X2 j fst b]
theorem zyx{p:uAU}{d B:Nat}{sn:Bool}(h:edS p=some (d,B,sn)):need (flo (edBody p)) false (edBody p)=d:=by obtain⟨s1,m1,c,k,m,pt,x,f,e,j⟩:=zpl h;have:=j.need;rwa [zvs,X2 (flo_is _)]at this
end
structure ES(s:Shape)(n sc:Nat)(sg:Bool):Prop where
 ed:edS s.uD=some (n,sc,sg)
 dig:s.uA=(n:Int)
 scl:s.uB=(sc:Int)
 sgn:s.uG=sg
 n1:1<=n
 n18:n<=18
 scn:sc<=n
 siz:s.uE=(szN s.uD:Int)
 len:s.uD.length<=256
 ne:s.uD≠[]
 sy:∀c∈s.uD,syms.contains c=true
 cat:s.uC=5
theorem zrW{p:uAU}{d c:Nat}{sg:Bool}(h:edS p=some (d,c,sg)):1<=d/\c<=d:=by obtain⟨s1,m1,I,k,m,pt,x,f,e,hh⟩:=zpl h;have j:=hh.hdg;have H:=hh.hsc;have B:=hh.pos;omega
theorem zBv{p:uAU}{sh:Shape}(h:parS p=(sh,0))(j:sh.uC=5):∃d c sg,edS p=some (d,c,sg)/\sh=qt p d c sg/\d<=18:=by
 unfold parS at h;split at h
 ·rename_i x B;cases h;unfold zdq at B
  grind
 ·split at h
  ·unfold zhL at h;split at h
   ·cases h
   ·cases h;cases j
  ·split at h
   ·rename_i d sc sg H;unfold zhL at h
    grind
   ·cases h
theorem zph{s:Shape}(h:chkV s=0)(h5:s.uC=5):∃n sc sg,ES s n sc sg:=by
 unfold chkV at h;by_cases hE:qm s=0
 ·rw[if_neg (fun h=>h hE),if_neg oM]at h;unfold zfk at h;by_cases H:(yI s.uD).2=0
  ·rw[if_neg (fun h=>h H)]at h;split at h
   ·cases h
   ·rename_i j;have j:(yI s.uD).1.uD=s.uD:=Classical.byContradiction fun B=>j B
    obtain⟨S,t2,t3⟩:=za3 h;have S:=of_decide_eq_false S;have hc:(yI s.uD).1.uC=s.uC:=Classical.byContradiction fun B=>S (.inl B)
    have J:(yI s.uD).1.uA=s.uA:=Classical.byContradiction fun B=>S (.inr (.inl B))
    have I:(yI s.uD).1.uB=s.uB:=Classical.byContradiction fun B=>S (.inr (.inr (.inl B)))
    have O:(yI s.uD).1.uG=s.uG:=Classical.byContradiction fun B=>S (.inr (.inr (.inr B)))
    unfold yI at H hc J I O j;clear S h;obtain⟨p,e,Z⟩:∃p e,exR 0 [] (items s.uD)=(p,e):=⟨_,_,rfl⟩
    rw[Z]at H hc J I O j;dsimp only at H hc J I O j;by_cases hx:e=0
    ·rw[if_pos hx]at H hc J I O j;obtain⟨g1,g2,g3⟩:=zpd Z hx;obtain⟨sh,e',Y⟩:∃sh e',parS p=(sh,e'):=⟨_,_,rfl⟩
     rw[Y]at H hc J I O j;dsimp only at H hc J I O j;rw[H]at Y;obtain⟨d,c,sg,U,e2,e3⟩:=zBv Y (hc.trans h5);rw[e2]at j J I O;have j:p=s.uD:=j;rw[j]at g1 g2 g3 U;obtain⟨b1,b2⟩:=zrW U;refine⟨d,c,sg,⟨U,J.symm,I.symm,O.symm,b1,e3,b2,?_,g2,g1,g3,h5⟩⟩;rw[t3];unfold sizeV
     grind
    grind
  grind
 grind
theorem zyQ{c:UInt8}{p:uAU}(h:∃x∈p,x≠c):p.count c<p.length:=by
 obtain⟨x,B,j⟩:=h;rcases Nat.lt_or_ge (p.count c) p.length with h|h
 ·exact h
 ·have:=List.count_le_length (a:=c) (l:=p);have e:p.count c=p.length:=oM
  exact absurd (List.count_eq_length.1 e x B) (fun e=>j e.symm)
theorem zxO{fl:UInt8}(j:fl≠86):∀(f:Bool)(b:uAU),(∀x∈b,x=86)->need fl f b=0
 |_,[],_=>rfl
 |f,c::b,h=>by have hc:=h c sI;subst hc;unfold need;rw[if_neg (by unfold dig;simp;exact fun e=>j e.symm),zxO j f b (fun x B=>h x (by simp[B]))]
theorem zig(b:uAU):flo b≠86:=by rcases flo_is b with h|h|h|h<;>rw[h]<;>decide
def gD(neg:Bool)(q sc:Nat):Decimal:=jS (canon neg q sc)
theorem zCD{neg:Bool}{q sc n:Nat}(I:n<=62)(j:1<=n)(B:q<10^n)(H:sc<=62):VD (gD neg q sc):=
 VD.of (nD (qh j B) I) (nD (ji neg q sc) H)
theorem zCE(neg:Bool)(q sc:Nat):(gD neg q sc).uB.toNat=(canon neg q sc).2.2:=by show(((canon neg q sc).2.2:Nat):Int).toNat=_;omega
theorem zmz(neg:Bool)(q:Nat){sc:Nat}(j:sc<=62):val (gD neg q sc).uA*10^(62+(sc:Int)).toNat=q*10^(62+(gD neg q sc).uB.toNat):=by rw[zCE];show val (canon neg q sc).2.1*_=_;have h:=XB neg q sc;rw[show(62+(sc:Int)).toNat=sc+62 by omega,Nat.pow_add,<-Nat.mul_assoc,h,Nat.mul_assoc,<-Nat.pow_add,nZ]
theorem zBU{neg:Bool}{q n sc:Nat}(j:sc<=62)(I:q<10^n):Jl (gD neg q sc) n sc/\quo (val (gD neg q sc).uA) (gD neg q sc).uB.toNat sc=q:=by
 have H:(gD neg q sc).uB.toNat<=62:=by rw[zCE];exact nD (ji neg q sc) j
 have B:=zmz neg q j;exact⟨(Jk H oM oM).2 ⟨q,I,B⟩,zlx H oM oM B⟩
theorem zBT(neg:Bool)(q sc:Nat):decide ((gD neg q sc).uA=[48])=decide (q=0):=by
 rw[decide_eq_decide];constructor
 ·intro h;refine(ziE neg q sc).1 ?_;show val (gD neg q sc).uA=0;rw[h];rfl
 ·rintro rfl;unfold gD;rw[qE];rfl
theorem zrC(neg:Bool)(q sc:Nat):(gD neg q sc).uI=(neg&&decide (q≠0)):=ziF neg q sc
def edT(s:Shape)(n:Nat)(neg:Bool)(q:Nat):Option uAU:=zin s (neg&&decide (q≠0)) (fmt n q) (decide (q=0))
theorem zim{s:Shape}{n sc:Nat}{sg:Bool}(h:ES s n sc sg)(neg:Bool){j:uAU}(Z:j.length=n)(zero:Bool):
  (∃r,zin s neg j zero=some r)/\∀w,zbR (jC (edBody s.uD)) (flS s) neg (edBody s.uD) ⟨j,false,0,[],-1⟩=some w->w.out≠[]:=by
 have U:=zyx h.ed;obtain⟨w,O⟩:=zjH (jC (edBody s.uD)) (flS s) neg (edBody s.uD) ⟨j,false,0,[],-1⟩ (by show need (flo _) false _<=j.length;omega);constructor
 ·unfold zin;rw[O];split
  ·grind
  ·split
   ·grind
   ·exact⟨_,rfl⟩
 ·intro w' H;rcases wrun_out _ _ _ _ _ _ H with B|B
  ·intro e;rw[e]at B;have Y:(edBody s.uD).count 86<(edBody s.uD).length:=by refine zyQ (Classical.byContradiction fun I=>?_);have:=zxO (zig (edBody s.uD)) false (edBody s.uD) (fun x S=>Classical.byContradiction fun J=>I ⟨x,S,J⟩);have:=h.n1;omega
   grind
  ·exact absurd B (zig _)
theorem zD0{N:Nat}(U:3000<N){s:Shape}{n sc:Nat}{sg:Bool}(h:ES s n sc sg)(neg:Bool){q:Nat}(H:q<10^n):∃r,edT s n neg q=some r/\zkG N (gD neg q sc) s=some r:=by
 have J:=h.n18;have j:=h.n1;have Y:=h.scn;obtain⟨⟨r,B⟩,O⟩:=zim h (neg&&decide (q≠0)) (zM n q) (decide (q=0));obtain⟨S,I⟩:=zBU (neg:=neg) (n:=n) (sc:=sc) oM H;refine⟨r,B,zyC U (by have:=h.len;omega) (fun c hc=>zjS (h.sy c hc)) h.dig j oM (by rw[h.scl];omega) (by rw[h.scl];omega) (by rw[h.siz];omega) ?_ (zCD (n:=n) oM j H oM) ?_ ?_ ?_⟩
 ·rw[h.siz];have:=h.len;unfold szN;omega
 ·rw[h.scl];exact S
 ·rw[h.scl,I,zrC,zBT];exact B
 ·rw[h.scl,I,zrC];exact O
theorem zj5{v n:Nat}{l:uAU}(hv:v<=val l)(j:Digs l)(B:l.length<=n):v<10^n:=
 Nat.lt_of_le_of_lt hv (Nat.lt_of_lt_of_le (jv j) (Nat.pow_le_pow_right dE B))
def Xw(d:Decimal)(sc:Nat):Decimal:=gD d.uI (val d.uA/10^(d.uB.toNat-sc)*10^(d.uB.toNat-sc)) d.uB.toNat
theorem zvO{N:Nat}(hN:3000<N){d:Decimal}(B:VD d){sc:Nat}(hs:sc<=62):∃t,zjw N d (sc:Int)=some (Xw d sc,t,0):=by
 obtain⟨x,e,J,h2,Z⟩:=zgM hN B (s:=(sc:Int)) oM oM;have hf:=B.form;obtain⟨g1,j,g3,g4,g5,_⟩:=B;refine⟨decide (val d.uA%10^(d.uB-(sc:Int)).toNat=0),?_⟩;rw[J];by_cases h:d.uB<=(sc:Int)
 ·obtain⟨rfl,rfl⟩:=h2 h;unfold Xw gD
  grind
 ·obtain⟨m,O,hx⟩:=Z oM;have Y:(d.uB-(sc:Int)).toNat=d.uB.toNat-sc:=oM
  rw[Y]at O;have hv:val (d.uA.take (d.uA.length-m)++List.replicate m 48)=val d.uA/10^(d.uB.toNat-sc)*10^(d.uB.toNat-sc):=by
   rw[jM,(ju j oM).1];rcases Nat.lt_or_ge d.uA.length (d.uB.toNat-sc)with S|U
   ·have H:m=d.uA.length:=oM
    rw[H,Nat.div_eq_of_lt (jv j),Nat.div_eq_of_lt (zj5 (mH _) j oM),Nat.zero_mul,Nat.zero_mul]
   grind
  have I:(-d.uB).toNat=0:=oM
  have hn:nrm d.uI (d.uA.take (d.uA.length-m)++List.replicate m 48) d.uB=(Xw d sc,0):=by
   rw[zdN,hv,I,Nat.pow_zero,mX]
   ·rfl
   ·rw[hv,I,Nat.pow_zero,mX];refine qh dE (zj5 (Nat.div_mul_le_self _ _) j g3)
   ·exact nD (ji _ _ _) oM
  grind
theorem zyP{d:Decimal}(Z:VD d){sc:Nat}(hs:sc<=62):VD (Xw d sc)/\exact (val (Xw d sc).uA) (Xw d sc).uB.toNat sc/\quo (val (Xw d sc).uA) (Xw d sc).uB.toNat sc=quo (val d.uA) d.uB.toNat sc:=by
 obtain⟨g1,Y,U,g4,g5,_⟩:=Z;obtain⟨S,I⟩:∃S,S=d.uB.toNat:=⟨_,rfl⟩
 obtain⟨v,hv⟩:∃v,v=val d.uA:=⟨_,rfl⟩
 have B:S<=62:=oM
 have H:VD (Xw d sc):=VD.of (qh dE (zj5 (Nat.div_mul_le_self _ _) Y U)) (nD (ji _ _ _) oM);have J:=zmz d.uI (v/10^(S-sc)*10^(S-sc)) B;have hc:Xw d sc=gD d.uI (v/10^(S-sc)*10^(S-sc)) S:=by rw[I,hv];rfl
 rw[<-hc]at J;have key:val (Xw d sc).uA*10^(62+(sc:Int)).toNat=quo v S sc*10^(62+(Xw d sc).uB.toNat):=by
  refine Nat.eq_of_mul_eq_mul_right (pow_pos S) ?_;have O:10^(62+(sc:Int)).toNat*10^S=10^(62+(S:Int)).toNat*10^sc:=by rw[<-Nat.pow_add,<-Nat.pow_add];congr 1;omega
  rw[Nat.mul_assoc,O,<-Nat.mul_assoc,J,Nat.mul_assoc,Nat.mul_comm (10^(62+_)),<-Nat.mul_assoc,Nat.mul_assoc (quo v S sc),Nat.mul_comm (10^(62+_)) (10^S),<-Nat.mul_assoc];congr 1;unfold quo;rw[show((S:Int)-(sc:Int)).toNat=S-sc by omega,show((sc:Int)-(S:Int)).toNat=sc-S by omega];rcases Nat.le_total S sc with h|h
  ·rw[show S-sc=0 by omega,Nat.pow_zero,Nat.div_one,Nat.div_one,mX,Nat.mul_assoc,<-Nat.pow_add,show sc-S+S=sc by omega]
  ·rw[show sc-S=0 by omega,Nat.pow_zero,mX,Nat.mul_assoc,<-Nat.pow_add,show S-sc+sc=S by omega]
 have j:(Xw d sc).uB.toNat<=62:=by have:=H.2.2.2.2.1;omega
 rw[<-I,<-hv];exact⟨H,((Jk (n:=quo v S sc) j oM oM).2 ⟨_,Yw _,key⟩).1,zlx j oM oM key⟩
theorem zBs{N:Nat}(O:3000<N){d:Decimal}(J:VD d){n sc:Nat}(S:1<=n)(j:n<=62)(hs:sc<=62)(he:exact (val d.uA) d.uB.toNat sc):
  zlw N d (n:Int) (sc:Int)=some (gD d.uI (quo (val d.uA) d.uB.toNat sc%10^n) sc,0):=by
 obtain⟨t,e1,U,e3,Y,e5⟩:=(WM O J (n:=n) (s:=sc) oM oM oM).1 he;have hl:d.uA.length<=1000:=by have:=J.2.2.1;omega
 unfold zlw;rw[WH O hl S j oM oM,if_pos J,zc,zj,if_pos rfl,e1,zc];dsimp only;have B:zk ((t.length:Int)-(n:Int)) (t.length:Int) t.length=true:=by unfold zk;simp<;>omega
 have hv:val (t.drop (t.length-n))=quo (val d.uA) d.uB.toNat sc%10^n:=by rw[(ju U Y).2,e3]
 have I:quo (val d.uA) d.uB.toNat sc%10^n<10^n:=Nat.mod_lt _ (pow_pos n);have H:t.drop (t.length-n)≠[]:=by
  intro h;have:=congrArg List.length h
  grind
 have Z:(-(sc:Int)).toNat=0:=oM
 rw[uAf,cond_false,zh oM oM,za,B,za,Xt _ Y,zgL O _ (U.drop _) H (by rw[mP];omega) oM oM,zc,zdN,hv,Z,Nat.pow_zero,mX,mV]
 ·rfl
 ·rw[hv,Z,Nat.pow_zero,mX];exact nD (qh S I) j
 ·exact nD (ji _ _ _) oM
def zdP(d:Decimal)(n sc:Nat):Nat:=quo (val d.uA) d.uB.toNat sc%10^n
theorem zi1{N:Nat}(B:3000<N){s:Shape}{n sc:Nat}{sg:Bool}(h:ES s n sc sg)(hc:chkV s=0){d:Decimal}(H:VD d):
  ∃r,edT s n d.uI (zdP d n sc)=some r/\Wl N d s=some (r,0):=by
 have J:=h.n18;have I:=h.n1;have h2:=h.scn;have j:zdP d n sc<10^n:=Nat.mod_lt _ (pow_pos n);obtain⟨Z,c2,c3⟩:=zyP H (sc:=sc) oM;have S:(Xw d sc).uI=d.uI\/quo (val (Xw d sc).uA) (Xw d sc).uB.toNat sc=0:=by
  have e:(Xw d sc).uI=_:=zrC _ _ _;by_cases U:val d.uA/10^(d.uB.toNat-sc)*10^(d.uB.toNat-sc)=0
  ·right;have:val (Xw d sc).uA=0:=by unfold Xw;rw[U];exact (ziE _ _ _).2 rfl
   unfold quo;simp_all
  grind
 have hg:gD (Xw d sc).uI (zdP d n sc) sc=gD d.uI (zdP d n sc) sc:=by
  rcases S with e|e
  ·rw[e]
  ·have:zdP d n sc=0:=by unfold zdP;rw[<-c3,e,Nat.zero_mod]
   rw[this];unfold gD;rw[qE,qE]
 obtain⟨r,O,Y⟩:=zD0 B h d.uI j;refine⟨r,O,?_⟩;obtain⟨t,ht⟩:=zvO B H (sc:=sc) oM;have hk:zaN s 5=0:=by unfold zaN;rw[if_neg (fun e=>e hc),if_neg (fun e=>e h.cat)]
 unfold Wl;rw[zpp oM (by have:=h.len;omega),hk,zc,zj,if_pos rfl,h.scl,ht,zc];dsimp only;rw[zj,if_pos rfl,h.dig,zBs B Z I oM oM c2,zc];dsimp only;rw[zj,if_pos rfl,c3,show quo (val d.uA) d.uB.toNat (sc:Int)%10^n=zdP d n sc from rfl,hg,Y,zc,clip_is,zc]
end Go.Proofs.C06
