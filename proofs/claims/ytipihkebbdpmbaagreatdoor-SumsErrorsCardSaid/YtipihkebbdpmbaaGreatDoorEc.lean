/-
  A part of the proof of the laws.
-/
import Derived.Test.YtipihkebbdpmbaaGreatDoorEa
import Derived.Test.YtipihkebbdpmbaaGreatDoorUa
import Derived.Test.YtipihkebbdpmbaaGreatDoorPc
section
set_option maxRecDepth 100000
namespace Go.Proofs.C06
open Go Go.RowKit Go.Vc Go.Am Go.Dg
def Yj(c:UInt8):UInt8:=if c=46 then 46 else 42
def jn:List UInt8→List UInt8
 |[]=>[]
 |c::r=>if c=86 then jn r else Yj c::jn r
theorem zjE(N:Nat)(c:UInt8):zhR N (c.toNat:Int)=some (if c=86 then-1 else((Yj c).toNat:Int)):=by
 unfold zhR Yj;have e86:((c.toNat:Int)=86)↔c=86:=YL c 86 (by decide);have e46:((c.toNat:Int)=46)↔c=46:=YL c 46 (by decide);rw[zb,zb];by_cases h:c=86
 ·rw[if_pos (e86.2 h),if_pos h]
 ·rw[if_neg (fun e=>h (e86.1 e)),if_neg h];by_cases h2:c=46
  ·rw[if_pos (e46.2 h2),if_pos h2,h2]
  ·rw[if_neg (fun e=>h2 (e46.1 e)),if_neg h2];rfl
theorem zm9(c:UInt8):(Yj c).toNat<128:=by unfold Yj;split<;>decide
theorem JN{N:Nat}(s:List UInt8)(hs:s.length≤400)(ha:∀c∈s,c.toNat<128):∀(n i:Nat)(out:List UInt8),i≤s.length→s.length-i<n→out.length≤401+i→
  yw N n s i out=some (out++jn (s.drop i))
 |0,i,out,_,h,_=>by omega
 |n+1,i,out,hi,h,ho=>by
  show YS N (yw N n) s i out=_;unfold YS;by_cases hlt:i<s.length
  ·have hc:=ha _ (VT hlt);rw[show Nat.blt i s.length=true from Nat.ble_eq_true_of_le hlt,cond_true,Z9 hc,zjE,zc,Zt hc,jh hlt,jn,zb];by_cases h86:s.getD i 0=86
   ·rw[if_pos h86,if_neg (by decide),if_pos h86];exact JN s hs ha n (i+1) out (by omega) (by omega) (by omega)
   ·have hl:=zm9 (s.getD i 0);rw[if_neg h86,if_pos (by omega),if_neg h86,zb,if_pos (by omega),zgn (by omega) (by omega)];unfold K3;rw[JE,Bool.and_true,za,List.map_singleton,q8,Zy (by simp;omega),za,zc,JN s hs ha n (i+1) _ (by omega) (by omega) (by simp;omega),List.append_assoc];rfl
  ·rw[show Nat.blt i s.length=false from Bool.eq_false_iff.2 (fun e=>hlt (Nat.le_of_ble_eq_true e)),cond_false,List.drop_eq_nil_of_le (by omega)];unfold KB;rw[decide_eq_true (by omega),za,zc];simp[jn]
theorem Ky{N:Nat}(hN:1000<N)(s:List UInt8)(hs:s.length≤400)(ha:∀c∈s,c.toNat<128):∀(n i:Nat),i≤s.length→s.length-i<n→
  yx N n s s i=some (s.take i++jn (s.drop i))
 |0,i,_,h=>by omega
 |n+1,i,hi,h=>by
  show YT N (yx N n) s s i=_;unfold YT;by_cases hlt:i<s.length
  ·have hc:=ha _ (VT hlt);have hrl:JS ((s.getD i 0).toNat:Int)=some 1:=by unfold JS Lib.runeLen;rw[if_neg (by omega),if_pos (by omega)]
   have hg:zak N ((s.length:Int)+4)=some []:=by
    unfold zak;rw[decide_eq_false (by omega),cond_false,decide_eq_true (by omega),cond_true];have:QY ((s.length:Int)+4)=true:=by rw[show((s.length:Int)+4)=Int.ofNat (s.length+4)from rfl];unfold QY;simp only[Nat.ble_eq_true_of_le (show 1≤s.length+4 by omega),Nat.ble_eq_true_of_le (show s.length+4≤281474976710656 by omega)];rfl
    rw[this,za,zc]
   have hw:Jh N (jz s (i:Int)) []=some ((((jz s (i:Int)).length:Nat):Int),s.take i):=by unfold Jh;have ht:jz s (i:Int)=s.take i:=rfl;rw[ht,List.nil_append,Zy (by rw[List.length_take];omega),za]
   have k1:∀(rr:Int)(out:List UInt8),(rr= -1∧out=s.take i∨∃u:UInt8,u.toNat<128∧rr=(u.toNat:Int)∧out=s.take i++[u])→ZK N (yx N n) s (i:Int) ((s.getD i 0).toNat:Int) rr s (i+1)=some (out++jn (s.drop (i+1))):=by
    intro rr out hrr;have fin:∀out:List UInt8,out.length≤401→yw N N (zM s ((i:Int)+1)) 0 out=some (out++jn (s.drop (i+1))):=fun out ho=>by rw[show((i:Int)+1)=((i+1:Nat):Int)by omega,zdr];have:=JN (N:=N) (s.drop (i+1)) (by rw[List.length_drop];omega) (fun c hc=>ha c (List.mem_of_mem_drop hc)) N 0 out (by omega) (by rw[List.length_drop];omega) (by omega);rw[this,List.drop_zero]
    have hk1:zd .i64 ((i:Int)+1)=true:=zu (by omega) (by omega);have hs1:zw ((i:Int)+1) (s.length:Int) s.length=true:=zF.2 ⟨by omega,by omega,by omega⟩;unfold ZK;rw[zb,if_neg (by omega),hrl,zc,zu (by omega) (by omega),za,hg,zc,zF.2 ⟨by omega,by omega,by omega⟩,za,hw,zc];dsimp only;rcases hrr with⟨rfl,rfl⟩|⟨u,hu,rfl,rfl⟩
    ·rw[decide_eq_false (by decide),cond_false,hk1,za,hs1,za];unfold zia;rw[zc];exact fin _ (by rw[List.length_take];omega)
    ·rw[decide_eq_true (by omega),cond_true];unfold zaD K7;rw[show IntKind.wrap .u32 (u.toNat:Int)=(u.toNat:Int)from zap ⟨by show(0:Int)≤_;omega,by show _≤(4294967295:Int);omega⟩,zb,if_pos (by omega),zgn (by omega) (by omega),JE,Bool.and_true,za,List.map_singleton,q8,
      Zy (by simp;omega),za,zc,zu (by simp;omega) (by simp;omega),za,zc,hk1,za,hs1,za]
     unfold zia;rw[zc];exact fin _ (by simp;omega)
   rw[show Nat.blt i s.length=true from Nat.ble_eq_true_of_le hlt,cond_true,Z9 hc,zjE,zc,Zt hc,jh hlt,jn,zb];by_cases h86:s.getD i 0=86
   ·rw[if_pos h86,if_neg (by omega),if_pos h86];exact k1 _ _ (.inl ⟨rfl,rfl⟩)
   ·rw[if_neg h86,if_neg h86];by_cases hsame:Yj (s.getD i 0)=s.getD i 0
    ·rw[if_pos (by rw[hsame]),decide_eq_false (by omega),Bool.not_false,cond_true,Ky hN s hs ha n (i+1) (by omega) (by omega),hsame];rw[List.take_add_one,List.append_assoc];congr 2;rw[List.getElem?_eq_getElem hlt,←VU hlt];rfl
    ·rw[if_neg (fun e=>hsame (UInt8.toNat_inj.1 (by omega)))];have:=k1 _ _ (.inr ⟨Yj (s.getD i 0),zm9 _,rfl,rfl⟩);rw[this,List.append_assoc];rfl
  ·rw[show Nat.blt i s.length=false from Bool.eq_false_iff.2 (fun e=>hlt (Nat.le_of_ble_eq_true e)),cond_false,List.drop_eq_nil_of_le (by omega),List.take_of_length_le (by omega)];simp[jn]
theorem znO{N:Nat}(hN:1000<N){s:List UInt8}(hs:s.length≤400)(ha:∀c∈s,c.toNat<128):zb2 N s=some (jn s):=by unfold zb2;have:=Ky hN s hs ha N 0 (by omega) (by omega);simpa using this
def Yp(fl:UInt8)(b set:List UInt8):Bool:=b.all fun c=>!dig fl c||set.contains c
def flS(s:Shape):UInt8:=flo (edBody s.Picture)
def XC(s:Shape):Bool:=s.Blank||Yp (flS s) (edBody s.Picture) ([90]++if flS s=0 then[]else[flS s])
def zdX(s:Shape)(neg:Bool)(ds:List UInt8)(zero:Bool):Option (List UInt8):=if zero=true∧XC s=true then some (List.replicate s.Size.toNat 32)else if zero=true∧Yp (flS s) (edBody s.Picture) [42]=true then some (jn s.Picture)else zei (zas (flS s) neg (jq s.Picture)) (j6 (zP (edBody s.Picture)) (flS s) neg (edBody s.Picture) ⟨ds,false,0,[],-1⟩)
theorem flo_is(b:List UInt8):flo b=0∨flo b=36∨flo b=43∨flo b=45:=by
 unfold flo;by_cases h1:1<b.count 45
 ·rw[if_pos h1];exact .inr (.inr (.inr rfl))
 ·rw[if_neg h1];by_cases h2:1<b.count 43
  ·rw[if_pos h2];exact .inr (.inr (.inl rfl))
  ·rw[if_neg h2];by_cases h3:1<b.count 36
   ·rw[if_pos h3];exact .inr (.inl rfl)
   ·rw[if_neg h3];exact .inl rfl
theorem zqR(p:List UInt8):(jq p).length≤2:=by
 unfold jq;split
 ·rename_i h;rcases h with h|h<;>rw[h]<;>simp
 ·simp
theorem zqT(p:List UInt8):(edBody p).length≤p.length:=by
 unfold edBody;split
 ·rw[List.length_take];omega
 ·exact Nat.le_refl _
theorem zyQ{N:Nat}(hN:3000<N){s:Shape}(hp:s.Picture.length≤400)(ha:∀c∈s.Picture,c.toNat<128){n:Nat}(hn:s.Digits=(n:Int))(h1:1≤n)(h2:n≤62)(hs1: -62≤s.Scale)(hs2:s.Scale≤62)(hz1:0≤s.Size)(hz2:s.Size≤1000)
  {d:Decimal} (hd:VD d) (hf:Yy d n s.Scale) {r:List UInt8} (hr:zdX s d.Neg (fmt n (quo (val d.Digits) d.Scale.toNat s.Scale)) (decide (d.Digits=[48]))=some r)
  (hne:∀w,j6 (zP (edBody s.Picture)) (flS s) d.Neg (edBody s.Picture) ⟨fmt n (quo (val d.Digits) d.Scale.toNat s.Scale),false,0,[],-1⟩=some w→w.out≠[]):zor N d s=some r:=by
 have hbl:(edBody s.Picture).length≤400:=Nat.le_trans (zqT _) hp;have htl:(jq s.Picture).length≤10:=Nat.le_trans (zqR _) (by decide);unfold zor;rw[zE3 (by omega) hp,zc];obtain⟨z,hz⟩:∃z,decide (d.Digits=([48]:List UInt8))=z:=⟨_,rfl⟩
 rw[hz]at hr⊢;have only:=fun set=>zyO (N:=N) (by omega) (t:=jq s.Picture) (flS s) set hbl
 have k1:∀t:Bool,(t=true→some (jn s.Picture)=some r)→(t=false→zei (zas (flS s) d.Neg (jq s.Picture)) (j6 (zP (edBody s.Picture)) (flS s) d.Neg (edBody s.Picture) ⟨fmt n (quo (val d.Digits) d.Scale.toNat s.Scale),false,0,[],-1⟩)=some r)→KT N t d s (zp4 s)=some r:=by
  intro t ht1 ht2;unfold KT;cases t
  ·have hw:=ht2 rfl;obtain⟨w,hw1,rfl⟩:=zeJ hw;have hlen:(fmt n (quo (val d.Digits) d.Scale.toNat s.Scale)).length≤1000:=by rw[zK];omega
   obtain⟨q,hq1,hq2⟩:=zs8 (N:=N) hbl htl (by omega) _ hlen hw1 (hne w hw1) 0;rw[cond_false,hn,zgR hN hd h1 h2 hs1 hs2,if_pos hf,zc];show bnd (zgr N (edBody s.Picture) (jq s.Picture) ((flS s).toNat:Int) _ d.Neg false 0 0) _=_;rw[hq1,zc,hq2]
  ·rw[cond_true,znO (by omega) hp ha,zc];exact ht1 rfl
 have k0:∀t:Bool,t=(z&&XC s)→QB N z t d s (zp4 s)=some r:=by
  intro t ht;unfold QB zdX at*
  cases t
  ·have hb:¬(z=true∧XC s=true):=by rintro⟨e1,e2⟩;rw[e1,e2]at ht;cases ht
   rw[if_neg hb]at hr;rw[cond_false];cases z
   ·rw[cond_false];rw[if_neg (by rintro⟨e,_⟩;cases e)]at hr;exact k1 false (fun e=>by cases e) (fun _=>hr)
   ·rw[cond_true];show bnd (zjF N (picture.mk (edBody s.Picture) (jq s.Picture) ((flS s).toNat:Int)) [42]) _=_;rw[only,zc];refine k1 _ (fun e=>?_) (fun e=>?_)
    ·rwa [if_pos ⟨rfl,e⟩]at hr
    ·rwa [if_neg (by rintro⟨_,e'⟩;unfold Yp at e';rw[e]at e';cases e')]at hr
  ·have hb:z=true∧XC s=true:=by simpa using ht.symm
   rw[if_pos hb]at hr;obtain⟨k,hk⟩:=Int.eq_ofNat_of_zero_le hz1;rw[cond_true,hk];have:zzk ([32].map toByte) (k:Int)=some (List.replicate k 32):=by show chk (decide ((0:Int)≤k)&&decide ((k:Int)≤140737488355328)) _=_;rw[decide_eq_true (by omega),decide_eq_true (by omega)];rfl
   rw[this,zc,←hr,hk];rfl
 cases z
 ·rw[cond_false];exact k0 false rfl
 ·rw[cond_true];cases hbk:s.Blank with
  |true=>rw[cond_true];exact k0 true (by unfold XC;rw[hbk];rfl)
  |false=>
   rw[cond_false];have htr:Z4 ([(zp4 s).float].map toByte) [0]=some (if flS s=0 then[]else[flS s]):=by show Z4 ([((flS s).toNat:Int)].map toByte) [0]=_;rw[List.map_singleton,q8];rcases flo_is (edBody s.Picture)with h|h|h|h<;>(unfold flS;rw[h];rfl)
   have hfu:zd .u8 (zp4 s).float=true:=JE (flS s);have hco:jg ([90]:List UInt8) (if flS s=0 then[]else[flS s])=true:=QK.2 (by split<;>simp);rw[hfu,Bool.and_true,za,htr,zc,hco,za];show bnd (zjF N (picture.mk (edBody s.Picture) (jq s.Picture) ((flS s).toNat:Int)) _) _=_;rw[only,zc];exact k0 _ (by unfold XC;rw[hbk];rfl)
end Go.Proofs.C06
end
section
set_option maxRecDepth 100000
namespace Go.Proofs.C06
open Go Go.RowKit Go.Vc Go.Am Go.Dg
def need(fl:UInt8):Bool→List UInt8→Nat
 |_,[]=>0
 |fst,c::b=>if dig fl c=true then(if c=fl∧fst=false then need fl true b else need fl fst b+1)else need fl fst b
theorem zar(fc c:UInt8)(r:Bool)(w:WS):(j3 fc c r w).fst=w.fst:=by unfold j3;split<;>rfl
theorem ziS(fc fl:UInt8)(neg:Bool):∀(b:List UInt8)(w:WS),need fl w.fst b≤w.ds.length→∃w',j6 fc fl neg b w=some w'
 |[],w,_=>⟨w,rfl⟩
 |c::b,w,h=>by
  have step:∃w1,jV fc fl neg c w=some w1∧need fl w1.fst b≤w1.ds.length:=by
   unfold need at h;unfold jV;by_cases hd:dig fl c=true
   ·rw[if_pos hd]at h⊢;unfold Wk;by_cases hf:c=fl∧w.fst=false
    ·rw[if_pos hf]at h⊢;refine⟨_,rfl,?_⟩;rw[zar,(yU _ _ _ _).2];exact h
    ·rw[if_neg hf]at h⊢;cases hds:w.ds with
     |nil=>rw[hds]at h;simp at h
     |cons d r=>refine⟨_,rfl,?_⟩;rw[zar,(yU _ _ _ _).2];rw[hds,List.length_cons]at h;exact Nat.le_of_succ_le_succ h
   ·rw[if_neg hd]at h⊢;by_cases h86:c=86
    ·rw[if_pos h86];exact⟨_,rfl,h⟩
    ·rw[if_neg h86];by_cases h46:c=46
     ·rw[if_pos h46];refine⟨_,rfl,?_⟩;rw[zar,(yU _ _ _ _).2];exact h
     ·rw[if_neg h46];refine⟨_,rfl,?_⟩;rw[zar,(yU _ _ _ _).2];exact h
  obtain⟨w1,h1,h2⟩:=step;obtain⟨w2,h3⟩:=ziS fc fl neg b w1 h2;exact⟨w2,by unfold j6;rw[h1];exact h3⟩
theorem wrun_out(fc fl:UInt8)(neg:Bool):∀(b:List UInt8)(w w':WS),j6 fc fl neg b w=some w'→w'.out.length+b.count 86=w.out.length+b.length∨fl=86
 |[],w,w',h=>by cases h;exact .inl rfl
 |c::b,w,w',h=>by
  unfold j6 at h;split at h
  ·rename_i w1 hs;rcases wrun_out fc fl neg b w1 w' h with h2|h2
   ·by_cases hfl:fl=86
    ·exact .inr hfl
    ·left;unfold jV at hs;rw[List.count_cons,List.length_cons];split at hs
     ·rename_i hd;have:=(zmO hs).1;have hc:c≠86:=fun e=>by subst e;unfold dig at hd;simp at hd;exact hfl hd.symm
      rw[show(c==86)=false by simpa using hc,if_neg (by decide)];omega
     ·split at hs
      ·rename_i hc;cases hs;subst hc;simp only[beq_self_eq_true,if_true];simp only at h2;omega
      ·rename_i hc;rw[show(c==86)=false by simpa using hc,if_neg (by decide)];split at hs
       ·cases hs;rw[(yU _ _ _ _).1]at h2;simp only at h2;omega
       ·cases hs;rw[(yU _ _ _ _).1]at h2;omega
   ·exact .inr h2
  ·cases h
theorem zjn(fl:UInt8):∀b:List UInt8,need fl true b=b.countP (dig fl)
 |[]=>rfl
 |c::b=>by unfold need;rw[List.countP_cons,zjn fl b];cases hd:dig fl c<;>simp
theorem qO(fl:UInt8):dig fl fl=true:=by unfold dig;simp
theorem zhb(fl:UInt8):∀b:List UInt8,need fl false b+(if b.contains fl=true then 1 else 0)=b.countP (dig fl)
 |[]=>rfl
 |c::b=>by
  unfold need;rw[List.countP_cons,List.contains_cons];by_cases hc:c=fl
  ·subst hc;rw[if_pos (qO c),if_pos ⟨rfl,rfl⟩,zjn,qO];simp
  ·have ih:=zhb fl b;rw[show(fl==c)=false by simpa using fun e=>hc e.symm,Bool.false_or];by_cases hd:dig fl c=true
   ·rw[if_pos hd,if_neg (fun h=>hc h.1),if_pos hd];omega
   ·rw[if_neg hd,if_neg hd];omega
theorem zEW{b:List UInt8}(a:UInt8)(ha:a=36∨a=43∨a=45)(h:1<b.count a)(h2:∀x:UInt8,(x=43∨x=45)→x≠a→b.count x≤1):flo b=a:=by
 unfold flo;rcases ha with rfl|rfl|rfl
 ·rw[if_neg (by have:=h2 45 (.inr rfl) (by decide);omega),if_neg (by have:=h2 43 (.inl rfl) (by decide);omega),if_pos h]
 ·rw[if_neg (by have:=h2 45 (.inr rfl) (by decide);omega),if_pos h]
 ·rw[if_pos h]
theorem zyA{b:List UInt8}(h:∀x:UInt8,(x=36∨x=43∨x=45)→b.count x≤1):flo b=0:=by unfold flo;rw[if_neg (by have:=h 45 (.inr (.inr rfl));omega),if_neg (by have:=h 43 (.inr (.inl rfl));omega),if_neg (by have:=h 36 (.inl rfl);omega)]
section
variable {sg0 : Nat} {q : List UInt8} {dg sc : Nat} {sn : Bool} {s1 m1 : List UInt8} {c : UInt8} {k m : Nat} {pt : List UInt8} {x : UInt8} {f : Nat} {e : List UInt8}
theorem zds(a u:UInt8)(n:Nat):(List.replicate n u).count a=if u=a then n else 0:=by rw[List.count_replicate];by_cases h:u=a<;>simp[h]
def zdi(c:UInt8)(k:Nat):Prop:=0<k∧(c=36∨c=43∨c=45)
instance(c:UInt8)(k:Nat):Decidable (zdi c k):=by unfold zdi;infer_instance
theorem EdF.two(h:EdF sg0 q dg sc sn s1 m1 c k m pt x f e)(hf:zdi c k):2≤k:=by
 rcases h.run with r|r|r|r
 ·have:=hf.1;omega
 ·rcases hf.2 with e|e|e<;>rw[r]at e<;>simp at e
 ·rcases hf.2 with e|e|e<;>rw[r]at e<;>simp at e
 ·exact r.1
theorem EdF.cnt(h:EdF sg0 q dg sc sn s1 m1 c k m pt x f e){a:UInt8}(ha:a=36∨a=43∨a=45):q.count a=s1.count a+(m1.count a+((if c=a then k else 0)+((if x=a then f else 0)+e.count a))):=by
 rw[h.eq,List.count_append,List.count_append,List.count_append,List.count_append,List.count_append,List.count_append,zds,zds,zds];have h57:(if(57:UInt8)=a then m else 0)=0:=if_neg (by rcases ha with rfl|rfl|rfl<;>decide);have hp:pt.count a=0:=by rcases h.hpt with⟨r,_⟩|⟨r,_⟩|r<;>rw[r]<;>rcases ha with rfl|rfl|rfl<;>decide
 rw[h57,hp];omega
theorem EdF.low(h:EdF sg0 q dg sc sn s1 m1 c k m pt x f e){a:UInt8}(ha:a=36∨a=43∨a=45)(hn:¬(0<k∧c=a)):q.count a≤1:=by
 rw[h.cnt ha];have h1:(if c=a then k else 0)=0:=by
  split
  ·rename_i e;rcases Nat.eq_zero_or_pos k with h0|h0
   ·exact h0
   ·exact (hn ⟨h0,e⟩).elim
  ·rfl
 have h2:(if x=a then f else 0)=0:=by
  split
  ·rename_i e;rcases Nat.eq_zero_or_pos f with h0|h0
   ·exact h0
   ·rcases h.fx h0 with r|⟨_,⟨r1,r2⟩|⟨_,r⟩⟩
    ·rw[e]at r;subst r;rcases ha with r|r|r<;>simp at r
    ·exact (hn ⟨r1,by rw[←r2,e]⟩).elim
    ·rw[e]at r;rcases r with rfl|rfl<;>rcases ha with r|r|r<;>simp at r
  ·rfl
 have h3:=List.count_le_length (a:=a) (l:=s1);have h4:=List.count_le_length (a:=a) (l:=e);have hsg:=h.hsg;rw[h1,h2];rcases ha with rfl|rfl|rfl
 ·have h5:s1.count 36=0:=by rcases h.hs1 with r|r|r<;>rw[r]<;>decide
  have h6:e.count 36=0:=by rcases h.he with r|r|r<;>rw[r]<;>decide
  have h7:m1.count 36≤1:=by rcases h.hm1 with r|r<;>rw[r]<;>decide
  omega
 ·have h7:m1.count 43=0:=by rcases h.hm1 with r|r<;>rw[r]<;>decide
  omega
 ·have h7:m1.count 45=0:=by rcases h.hm1 with r|r<;>rw[r]<;>decide
  omega
theorem EdF.flo(h:EdF sg0 q dg sc sn s1 m1 c k m pt x f e):flo q=if zdi c k then c else 0:=by
 by_cases hf:zdi c k
 ·rw[if_pos hf];refine zEW c hf.2 ?_ (fun y hy hne=>h.low (by rcases hy with r|r<;>simp[r]) (fun k'=>hne k'.2.symm));rw[h.cnt hf.2,if_pos rfl];have:=h.two hf;omega
 ·rw[if_neg hf];exact zyA fun y hy=>h.low hy (fun k'=>hf ⟨k'.1,by rw[k'.2];exact hy⟩)
theorem zad(p:UInt8→Bool)(u:UInt8)(n:Nat):(List.replicate n u).countP p=if p u=true then n else 0:=by rw[List.countP_replicate]
theorem EdF.need(h:EdF sg0 q dg sc sn s1 m1 c k m pt x f e):need (C06.flo q) false q=dg:=by
 have hfl:=h.flo;obtain⟨fl,hfd⟩:∃fl,C06.flo q=fl:=⟨_,rfl⟩
 rw[hfd]at hfl⊢;have hn:=zhb fl q;have hsg:=h.hsg;have key:q.countP (dig fl)=k+m+f:=by
  rw[h.eq,List.countP_append,List.countP_append,List.countP_append,List.countP_append,List.countP_append,List.countP_append,zad,zad,zad];have e1:s1.countP (dig fl)=0:=by
   rw[hfl];by_cases hf:zdi c k
   ·rw[if_pos hf];rcases hf.2 with r|r|r
    ·rw[r];rcases h.hs1 with r|r|r<;>rw[r]<;>decide
    ·rw[if_pos ⟨hf.1,.inl r⟩]at hsg;rw[List.eq_nil_of_length_eq_zero (show s1.length=0 by omega)];rfl
    ·rw[if_pos ⟨hf.1,.inr r⟩]at hsg;rw[List.eq_nil_of_length_eq_zero (show s1.length=0 by omega)];rfl
   ·rw[if_neg hf];rcases h.hs1 with r|r|r<;>rw[r]<;>decide
  have e2:e.countP (dig fl)=0:=by
   rw[hfl];by_cases hf:zdi c k
   ·rw[if_pos hf];rcases hf.2 with r|r|r
    ·rw[r];rcases h.he with r|r|r<;>rw[r]<;>decide
    ·rw[if_pos ⟨hf.1,.inl r⟩]at hsg;rw[List.eq_nil_of_length_eq_zero (show e.length=0 by omega)];rfl
    ·rw[if_pos ⟨hf.1,.inr r⟩]at hsg;rw[List.eq_nil_of_length_eq_zero (show e.length=0 by omega)];rfl
   ·rw[if_neg hf];rcases h.he with r|r|r<;>rw[r]<;>decide
  have e3:m1.countP (dig fl)=0:=by
   rw[hfl];rcases h.hm1 with r|r
   ·rw[r];rfl
   ·by_cases hf:zdi c k
    ·rw[if_pos hf,r];rcases hf.2 with r2|r2|r2
     ·exact (h.dol r hf.1 r2).elim
     ·rw[r2];decide
     ·rw[r2];decide
    ·rw[if_neg hf,r];decide
  have e4:pt.countP (dig fl)=0:=by
   have:∀y:UInt8,(y=36∨y=43∨y=45∨y=0)→pt.countP (dig y)=0:=fun y hy=>by rcases h.hpt with⟨r,_⟩|⟨r,_⟩|r<;>rw[r]<;>rcases hy with rfl|rfl|rfl|rfl<;>decide
   refine this fl ?_;rw[hfl];by_cases hf:zdi c k
   ·rw[if_pos hf];rcases hf.2 with r|r|r<;>simp[r]
   ·rw[if_neg hf];simp
  have e5:(if dig fl c=true then k else 0)=k:=by
   rcases Nat.eq_zero_or_pos k with h0|h0
   ·rw[h0];split<;>rfl
   ·refine if_pos ?_;rcases h.run with r|r|r|r
    ·omega
    ·rw[r];unfold dig;simp
    ·rw[r];unfold dig;simp
    ·rw[hfl,if_pos ⟨h0,r.2⟩];exact qO c
  have e6:(if dig fl 57=true then m else 0)=m:=if_pos (by unfold dig;simp);have e7:(if dig fl x=true then f else 0)=f:=by
   rcases Nat.eq_zero_or_pos f with h0|h0
   ·rw[h0];split<;>rfl
   ·refine if_pos ?_;rcases h.fx h0 with r|⟨_,⟨r1,r2⟩|⟨_,r⟩⟩
    ·rw[r];unfold dig;simp
    ·rcases h.run with r|r|r|r
     ·omega
     ·rw[r2,r];unfold dig;simp
     ·rw[r2,r];unfold dig;simp
     ·rw[r2,hfl,if_pos ⟨r1,r.2⟩];exact qO c
    ·rcases r with r|r<;>(rw[r];unfold dig;simp)
  rw[e1,e2,e3,e4,e5,e6,e7];omega
 rw[key]at hn;have hdg:=h.hdg;by_cases hf:zdi c k
 ·have hdg':dg=k-1+m+f:=by rw[hdg,if_pos (show 0<k∧(c=36∨c=43∨c=45)from hf)]
  have hin:q.contains fl=true:=by
   rw[hfl,if_pos hf];have:=h.cnt hf.2;rw[if_pos rfl]at this;have h2:=h.two hf;have:0<q.count c:=by omega
   simpa using List.count_pos_iff.1 this
  rw[hin,if_pos rfl]at hn;have:=hf.1;omega
 ·have hdg':dg=k+m+f:=by rw[hdg,if_neg (show¬(0<k∧(c=36∨c=43∨c=45))from hf)]
  have hin:¬q.contains fl=true:=by
   rw[hfl,if_neg hf];intro h0;have h0:(0:UInt8)∈q:=by simpa using h0
   have hall:∀y∈q,y≠0:=by
    intro y hy;rw[h.eq]at hy;simp only[List.mem_append,List.mem_replicate]at hy;rcases hy with hy|hy|hy|hy|hy|hy|hy
    ·rcases h.hs1 with r|r|r<;>rw[r]at hy<;>simp at hy<;>rw[hy]<;>decide
    ·rcases h.hm1 with r|r<;>rw[r]at hy<;>simp at hy<;>rw[hy]<;>decide
    ·rcases h.run with r|r|r|r
     ·omega
     ·rw[hy.2,r];decide
     ·rw[hy.2,r];decide
     ·rw[hy.2];rcases r.2 with r|r|r<;>rw[r]<;>decide
    ·rw[hy.2];decide
    ·rcases h.hpt with⟨r,_⟩|⟨r,_⟩|r<;>rw[r]at hy<;>simp at hy<;>rw[hy]<;>decide
    ·have hf0:0<f:=by omega
     rcases h.fx hf0 with r|⟨_,⟨r1,r2⟩|⟨_,r⟩⟩
     ·rw[hy.2,r];decide
     ·rcases h.run with r|r|r|r
      ·omega
      ·rw[hy.2,r2,r];decide
      ·rw[hy.2,r2,r];decide
      ·rw[hy.2,r2];rcases r.2 with r|r|r<;>rw[r]<;>decide
     ·rw[hy.2];rcases r with r|r<;>rw[r]<;>decide
    ·rcases h.he with r|r|r<;>rw[r]at hy<;>simp at hy<;>rw[hy]<;>decide
   exact hall 0 h0 rfl
  rw[if_neg hin]at hn;omega
end
theorem KW{b:List UInt8}{a:UInt8}(ha:qt a=false):(noIns b).count a=b.count a:=by unfold noIns;rw[List.count_filter (by rw[ha];rfl)]
theorem zjC(b:List UInt8):flo (noIns b)=flo b:=by unfold flo;rw[KW (by rfl),KW (by rfl),KW (by rfl)]
theorem Xb{fl:UInt8}(hf:fl=0∨fl=36∨fl=43∨fl=45):∀(fst:Bool)(b:List UInt8),need fl fst (noIns b)=need fl fst b
 |fst,[]=>rfl
 |fst,c::b=>by
  rw[Xa];cases hi:qt c with
  |true=>
   rw[if_pos rfl,Xb hf fst b];have hd:dig fl c=false:=by
    have:c=66∨c=48∨c=47∨c=44:=by unfold qt at hi;simpa[List.contains_cons]using hi
    rcases hf with rfl|rfl|rfl|rfl<;>rcases this with rfl|rfl|rfl|rfl<;>decide
   show _=if dig fl c=true then _ else _
   rw[hd,if_neg (by decide)]
  |false=>rw[if_neg (by decide)];unfold need;rw[Xb hf true b,Xb hf fst b]
theorem zol{p:List UInt8}{d cc:Nat}{sn:Bool}(h:edS p=some (d,cc,sn)):need (flo (edBody p)) false (edBody p)=d:=by obtain⟨s1,m1,c,k,m,pt,x,f,e,hE⟩:=zhQ h;have:=hE.need;rwa [zjC,Xb (flo_is _)]at this
end Go.Proofs.C06
end
section
set_option maxRecDepth 100000
namespace Go.Proofs.C06
open Go Go.RowKit Go.Vc Go.Am Go.Dg
structure ES(s:Shape)(n sc:Nat)(sg:Bool):Prop where
 ed:edS s.Picture=some (n,sc,sg)
 dig:s.Digits=(n:Int)
 scl:s.Scale=(sc:Int)
 sgn:s.Signed=sg
 n1:1≤n
 n18:n≤18
 scn:sc≤n
 siz:s.Size=(szN s.Picture:Int)
 len:s.Picture.length≤256
 ne:s.Picture≠[]
 sy:∀c∈s.Picture,syms.contains c=true
 cat:s.Category=5
theorem zqS{p:List UInt8}{d c:Nat}{sg:Bool}(h:edS p=some (d,c,sg)):1≤d∧c≤d:=by obtain⟨s1,m1,c',k,m,pt,x,f,e,hh⟩:=zhQ h;have h1:=hh.hdg;have h2:=hh.hsc;have h3:=hh.pos;omega
theorem zCN{p:List UInt8}{sh:Shape}(h:parS p=(sh,0))(h5:sh.Category=5):∃d c sg,edS p=some (d,c,sg)∧sh=zF7 p d c sg∧d≤18:=by
 unfold parS at h;split at h
 ·rename_i x hx;cases h;unfold zix at hx;split at hx
  ·cases hx;cases h5
  ·split at hx
   ·cases hx
   ·split at hx
    ·cases hx;cases h5
    ·split at hx
     ·cases hx;cases h5
     ·cases hx
 ·split at h
  ·unfold zhj at h;split at h
   ·cases h
   ·cases h;cases h5
  ·split at h
   ·rename_i d sc sg he;unfold zhj at h;split at h
    ·cases h
    ·rename_i hl;cases h;exact⟨d,sc,sg,he,rfl,by omega⟩
   ·cases h
theorem zDQ{s:Shape}(h:chkV s=0)(h5:s.Category=5):∃n sc sg,ES s n sc sg:=by
 unfold chkV at h;by_cases hE:ZG s=0
 ·rw[if_neg (fun h=>h hE),if_neg (by omega)]at h;unfold zhf at h;by_cases h1:(ya s.Picture).2=0
  ·rw[if_neg (fun h=>h h1)]at h;split at h
   ·cases h
   ·rename_i hpic;have hpic:(ya s.Picture).1.Picture=s.Picture:=Classical.byContradiction fun hne=>hpic hne
    obtain⟨t1,t2,t3⟩:=WL h;have t1:=of_decide_eq_false t1;have hc:(ya s.Picture).1.Category=s.Category:=Classical.byContradiction fun hne=>t1 (.inl hne)
    have hd:(ya s.Picture).1.Digits=s.Digits:=Classical.byContradiction fun hne=>t1 (.inr (.inl hne))
    have hs:(ya s.Picture).1.Scale=s.Scale:=Classical.byContradiction fun hne=>t1 (.inr (.inr (.inl hne)))
    have hg:(ya s.Picture).1.Signed=s.Signed:=Classical.byContradiction fun hne=>t1 (.inr (.inr (.inr hne)))
    unfold ya at h1 hc hd hs hg hpic;clear t1 h;obtain⟨p,e,hX⟩:∃p e,exR 0 [] (items s.Picture)=(p,e):=⟨_,_,rfl⟩
    rw[hX]at h1 hc hd hs hg hpic;dsimp only at h1 hc hd hs hg hpic;by_cases hx:e=0
    ·rw[if_pos hx]at h1 hc hd hs hg hpic;obtain⟨g1,g2,g3⟩:=zoi hX hx;obtain⟨sh,e',hY⟩:∃sh e',parS p=(sh,e'):=⟨_,_,rfl⟩
     rw[hY]at h1 hc hd hs hg hpic;dsimp only at h1 hc hd hs hg hpic;rw[h1]at hY;obtain⟨d,c,sg,e1,e2,e3⟩:=zCN hY (hc.trans h5);rw[e2]at hpic hd hs hg;have hpic:p=s.Picture:=hpic;rw[hpic]at g1 g2 g3 e1;obtain⟨b1,b2⟩:=zqS e1;refine⟨d,c,sg,⟨e1,hd.symm,hs.symm,hg.symm,b1,e3,b2,?_,g2,g1,g3,h5⟩⟩;rw[t3];unfold sizeV;rw[if_neg (by omega),if_pos (by omega)]
    ·rw[if_neg hx]at h1;exact absurd h1 hx
  ·rw[if_pos h1]at h;exact absurd h h1
 ·rw[if_pos hE]at h;exact absurd h hE
theorem zy8{c:UInt8}{p:List UInt8}(h:∃x∈p,x≠c):p.count c<p.length:=by
 obtain⟨x,hx,hne⟩:=h;rcases Nat.lt_or_ge (p.count c) p.length with h|h
 ·exact h
 ·have:=List.count_le_length (a:=c) (l:=p);have e:p.count c=p.length:=by omega
  exact absurd (List.count_eq_length.1 e x hx) (fun e=>hne e.symm)
theorem zx7{fl:UInt8}(hf:fl≠86):∀(f:Bool)(b:List UInt8),(∀x∈b,x=86)→need fl f b=0
 |_,[],_=>rfl
 |f,c::b,h=>by have hc:=h c (by simp);subst hc;unfold need;rw[if_neg (by unfold dig;simp;exact fun e=>hf e.symm),zx7 hf f b (fun x hx=>h x (by simp[hx]))]
theorem zhI(b:List UInt8):flo b≠86:=by rcases flo_is b with h|h|h|h<;>rw[h]<;>decide
def gD(neg:Bool)(q sc:Nat):Decimal:=yQ (canon neg q sc)
theorem zFG{neg:Bool}{q sc n:Nat}(hn:n≤62)(hn1:1≤n)(hq:q<10^n)(hs:sc≤62):VD (gD neg q sc):=
 VD.of (Nat.le_trans (yN hn1 hq) hn) (Nat.le_trans (ji neg q sc) hs)
theorem zDP(neg:Bool)(q sc:Nat):(gD neg q sc).Scale.toNat=(canon neg q sc).2.2:=by show(((canon neg q sc).2.2:Nat):Int).toNat=_;omega
theorem zl4(neg:Bool)(q:Nat){sc:Nat}(hs:sc≤62):val (gD neg q sc).Digits*10^(62+(sc:Int)).toNat=q*10^(62+(gD neg q sc).Scale.toNat):=by rw[zDP];show val (canon neg q sc).2.1*_=_;have h:=Wc neg q sc;rw[show(62+(sc:Int)).toNat=sc+62 by omega,Nat.pow_add,←Nat.mul_assoc,h,Nat.mul_assoc,←Nat.pow_add,Nat.add_comm]
theorem zDd{neg:Bool}{q n sc:Nat}(hs:sc≤62)(hq:q<10^n):Yy (gD neg q sc) n sc∧quo (val (gD neg q sc).Digits) (gD neg q sc).Scale.toNat sc=q:=by
 have hS:(gD neg q sc).Scale.toNat≤62:=by rw[zDP];exact Nat.le_trans (ji neg q sc) hs
 have hg:=zl4 neg q hs;exact⟨(ZO hS (by omega) (by omega)).2 ⟨q,hq,hg⟩,zkv hS (by omega) (by omega) hg⟩
theorem zDc(neg:Bool)(q sc:Nat):decide ((gD neg q sc).Digits=[48])=decide (q=0):=by
 rw[decide_eq_decide];constructor
 ·intro h;refine(zh4 neg q sc).1 ?_;show val (gD neg q sc).Digits=0;rw[h];rfl
 ·rintro rfl;unfold gD;rw[qm];rfl
theorem zqD(neg:Bool)(q sc:Nat):(gD neg q sc).Neg=(neg&&decide (q≠0)):=zh5 neg q sc
def edT(s:Shape)(n:Nat)(neg:Bool)(q:Nat):Option (List UInt8):=zdX s (neg&&decide (q≠0)) (fmt n q) (decide (q=0))
theorem zqQ{s:Shape}{n sc:Nat}{sg:Bool}(h:ES s n sc sg)(neg:Bool){ds:List UInt8}(hl:ds.length=n)(zero:Bool):
  (∃r,zdX s neg ds zero=some r)∧∀w,j6 (zP (edBody s.Picture)) (flS s) neg (edBody s.Picture) ⟨ds,false,0,[],-1⟩=some w→w.out≠[]:=by
 have hn:=zol h.ed;obtain⟨w,hw⟩:=ziS (zP (edBody s.Picture)) (flS s) neg (edBody s.Picture) ⟨ds,false,0,[],-1⟩ (by show need (flo _) false _≤ds.length;omega);constructor
 ·unfold zdX;rw[hw];split
  ·exact⟨_,rfl⟩
  ·split
   ·exact⟨_,rfl⟩
   ·exact⟨_,rfl⟩
 ·intro w' hw';rcases wrun_out _ _ _ _ _ _ hw' with h1|h1
  ·intro e;rw[e]at h1;have h2:(edBody s.Picture).count 86<(edBody s.Picture).length:=by refine zy8 (Classical.byContradiction fun hne=>?_);have:=zx7 (zhI (edBody s.Picture)) false (edBody s.Picture) (fun x hx=>Classical.byContradiction fun he=>hne ⟨x,hx,he⟩);have:=h.n1;omega
   have h1:0+(edBody s.Picture).count 86=0+(edBody s.Picture).length:=h1;omega
  ·exact absurd h1 (zhI _)
theorem zE1{N:Nat}(hN:3000<N){s:Shape}{n sc:Nat}{sg:Bool}(h:ES s n sc sg)(neg:Bool){q:Nat}(hq:q<10^n):∃r,edT s n neg q=some r∧zor N (gD neg q sc) s=some r:=by
 have h18:=h.n18;have h1:=h.n1;have h2:=h.scn;obtain⟨⟨r,hr⟩,hw⟩:=zqQ h (neg&&decide (q≠0)) (zK n q) (decide (q=0));obtain⟨f1,f2⟩:=zDd (neg:=neg) (n:=n) (sc:=sc) (by omega) hq;refine⟨r,hr,zyQ hN (by have:=h.len;omega) (fun c hc=>zi4 (h.sy c hc)) h.dig h1 (by omega) (by rw[h.scl];omega) (by rw[h.scl];omega) (by rw[h.siz];omega) ?_ (zFG (n:=n) (by omega) h1 hq (by omega)) ?_ ?_ ?_⟩
 ·rw[h.siz];have:=h.len;unfold szN;omega
 ·rw[h.scl];exact f1
 ·rw[h.scl,f2,zqD,zDc];exact hr
 ·rw[h.scl,f2,zqD];exact hw
theorem zjh{v n:Nat}{l:List UInt8}(hv:v≤val l)(hd:Digs l)(hl:l.length≤n):v<10^n:=
 Nat.lt_of_le_of_lt hv (Nat.lt_of_lt_of_le (jw hd) (Nat.pow_le_pow_right (by decide) hl))
def QG(d:Decimal)(sc:Nat):Decimal:=gD d.Neg (val d.Digits/10^(d.Scale.toNat-sc)*10^(d.Scale.toNat-sc)) d.Scale.toNat
theorem zup{N:Nat}(hN:3000<N){d:Decimal}(hd:VD d){sc:Nat}(hs:sc≤62):∃t,zem N d (sc:Int)=some (QG d sc,t,0):=by
 obtain⟨x,e,h1,h2,h3⟩:=zgf hN hd (s:=(sc:Int)) (by omega) (by omega);have hf:=hd.form;obtain⟨g1,g2,g3,g4,g5,_⟩:=hd;refine⟨decide (val d.Digits%10^(d.Scale-(sc:Int)).toNat=0),?_⟩;rw[h1];by_cases h:d.Scale≤(sc:Int)
 ·obtain⟨rfl,rfl⟩:=h2 h;unfold QG gD;rw[show x.Scale.toNat-sc=0 by omega,Nat.pow_zero,Nat.div_one,Nat.mul_one,hf]
 ·obtain⟨m,hm,hx⟩:=h3 (by omega);have ek:(d.Scale-(sc:Int)).toNat=d.Scale.toNat-sc:=by omega
  rw[ek]at hm;have hv:val (d.Digits.take (d.Digits.length-m)++List.replicate m 48)=val d.Digits/10^(d.Scale.toNat-sc)*10^(d.Scale.toNat-sc):=by
   rw[jG,(jm g2 (by omega)).1];rcases Nat.lt_or_ge d.Digits.length (d.Scale.toNat-sc)with hlt|hge
   ·have hm':m=d.Digits.length:=by omega
    rw[hm',Nat.div_eq_of_lt (jw g2),Nat.div_eq_of_lt (zjh (Nat.le_refl _) g2 (by omega)),Nat.zero_mul,Nat.zero_mul]
   ·have hm':m=d.Scale.toNat-sc:=by omega
    rw[hm']
  have e0:(-d.Scale).toNat=0:=by omega
  have hn:nrm d.Neg (d.Digits.take (d.Digits.length-m)++List.replicate m 48) d.Scale=(QG d sc,0):=by
   rw[zda,hv,e0,Nat.pow_zero,Nat.mul_one]
   ·rfl
   ·rw[hv,e0,Nat.pow_zero,Nat.mul_one];refine yN (by decide) (zjh (Nat.div_mul_le_self _ _) g2 g3)
   ·exact Nat.le_trans (ji _ _ _) (by omega)
  rw[hn]at hx;cases hx;rfl
theorem zy7{d:Decimal}(hd:VD d){sc:Nat}(hs:sc≤62):VD (QG d sc)∧exact (val (QG d sc).Digits) (QG d sc).Scale.toNat sc∧quo (val (QG d sc).Digits) (QG d sc).Scale.toNat sc=quo (val d.Digits) d.Scale.toNat sc:=by
 obtain⟨g1,g2,g3,g4,g5,_⟩:=hd;obtain⟨S,hS⟩:∃S,S=d.Scale.toNat:=⟨_,rfl⟩
 obtain⟨v,hv⟩:∃v,v=val d.Digits:=⟨_,rfl⟩
 have hS62:S≤62:=by omega
 have hvd:VD (QG d sc):=VD.of (yN (by decide) (zjh (Nat.div_mul_le_self _ _) g2 g3)) (Nat.le_trans (ji _ _ _) (by omega));have hg:=zl4 d.Neg (v/10^(S-sc)*10^(S-sc)) hS62;have hc:QG d sc=gD d.Neg (v/10^(S-sc)*10^(S-sc)) S:=by rw[hS,hv];rfl
 rw[←hc]at hg;have key:val (QG d sc).Digits*10^(62+(sc:Int)).toNat=quo v S sc*10^(62+(QG d sc).Scale.toNat):=by
  refine Nat.eq_of_mul_eq_mul_right (pow_pos S) ?_;have e1:10^(62+(sc:Int)).toNat*10^S=10^(62+(S:Int)).toNat*10^sc:=by rw[←Nat.pow_add,←Nat.pow_add];congr 1;omega
  rw[Nat.mul_assoc,e1,←Nat.mul_assoc,hg,Nat.mul_assoc,Nat.mul_comm (10^(62+_)),←Nat.mul_assoc,Nat.mul_assoc (quo v S sc),Nat.mul_comm (10^(62+_)) (10^S),←Nat.mul_assoc];congr 1;unfold quo;rw[show((S:Int)-(sc:Int)).toNat=S-sc by omega,show((sc:Int)-(S:Int)).toNat=sc-S by omega];rcases Nat.le_total S sc with h|h
  ·rw[show S-sc=0 by omega,Nat.pow_zero,Nat.div_one,Nat.div_one,Nat.mul_one,Nat.mul_assoc,←Nat.pow_add,show sc-S+S=sc by omega]
  ·rw[show sc-S=0 by omega,Nat.pow_zero,Nat.mul_one,Nat.mul_assoc,←Nat.pow_add,show S-sc+sc=S by omega]
 have hS':(QG d sc).Scale.toNat≤62:=by have:=hvd.2.2.2.2.1;omega
 rw[←hS,←hv];exact⟨hvd,((ZO (n:=quo v S sc) hS' (by omega) (by omega)).2 ⟨_,JQ _,key⟩).1,zkv hS' (by omega) (by omega) key⟩
theorem zCJ{N:Nat}(hN:3000<N){d:Decimal}(hd:VD d){n sc:Nat}(h1:1≤n)(h18:n≤62)(hs:sc≤62)(he:exact (val d.Digits) d.Scale.toNat sc):
  ziB N d (n:Int) (sc:Int)=some (gD d.Neg (quo (val d.Digits) d.Scale.toNat sc%10^n) sc,0):=by
 obtain⟨t,e1,e2,e3,e4,e5⟩:=(Vz hN hd (n:=n) (s:=sc) (by omega) (by omega) (by omega)).1 he;have hl:d.Digits.length≤1000:=by have:=hd.2.2.1;omega
 unfold ziB;rw[Vr hN hl h1 h18 (by omega) (by omega),if_pos hd,zc,zp,if_pos rfl,e1,zc];dsimp only;have hin:zw ((t.length:Int)-(n:Int)) (t.length:Int) t.length=true:=by unfold zw;simp<;>omega
 have hv:val (t.drop (t.length-n))=quo (val d.Digits) d.Scale.toNat sc%10^n:=by rw[(jm e2 e4).2,e3]
 have hlt:quo (val d.Digits) d.Scale.toNat sc%10^n<10^n:=Nat.mod_lt _ (pow_pos n);have hne:t.drop (t.length-n)≠[]:=by intro h;have:=congrArg List.length h;rw[List.length_drop,List.length_nil]at this;omega
 have e0:(-(sc:Int)).toNat=0:=by omega
 rw[Bool.not_true,cond_false,zu (by omega) (by omega),za,hin,za,QE _ e4,zge hN _ (e2.drop _) hne (by rw[List.length_drop];omega) (by omega) (by omega),zc,zda,hv,e0,Nat.pow_zero,Nat.mul_one,Int.toNat_natCast]
 ·rfl
 ·rw[hv,e0,Nat.pow_zero,Nat.mul_one];exact Nat.le_trans (yN h1 hlt) h18
 ·exact Nat.le_trans (ji _ _ _) (by omega)
def zb5(d:Decimal)(n sc:Nat):Nat:=quo (val d.Digits) d.Scale.toNat sc%10^n
theorem zzr{N:Nat}(hN:3000<N){s:Shape}{n sc:Nat}{sg:Bool}(h:ES s n sc sg)(hc:chkV s=0){d:Decimal}(hd:VD d):
  ∃r,edT s n d.Neg (zb5 d n sc)=some r∧zii N d s=some (r,0):=by
 have h18:=h.n18;have h1:=h.n1;have h2:=h.scn;have hlt:zb5 d n sc<10^n:=Nat.mod_lt _ (pow_pos n);obtain⟨c1,c2,c3⟩:=zy7 hd (sc:=sc) (by omega);have hn:(QG d sc).Neg=d.Neg∨quo (val (QG d sc).Digits) (QG d sc).Scale.toNat sc=0:=by
  have e:(QG d sc).Neg=_:=zqD _ _ _;by_cases h0:val d.Digits/10^(d.Scale.toNat-sc)*10^(d.Scale.toNat-sc)=0
  ·right;have:val (QG d sc).Digits=0:=by unfold QG;rw[h0];exact (zh4 _ _ _).2 rfl
   unfold quo;rw[this,Nat.zero_mul,Nat.zero_div]
  ·left;rw[e,decide_eq_true h0,Bool.and_true]
 have hg:gD (QG d sc).Neg (zb5 d n sc) sc=gD d.Neg (zb5 d n sc) sc:=by
  rcases hn with e|e
  ·rw[e]
  ·have:zb5 d n sc=0:=by unfold zb5;rw[←c3,e,Nat.zero_mod]
   rw[this];unfold gD;rw[qm,qm]
 obtain⟨r,e1,e2⟩:=zE1 hN h d.Neg hlt;refine⟨r,e1,?_⟩;obtain⟨t,ht⟩:=zup hN hd (sc:=sc) (by omega);have hk:zsJ s 5=0:=by unfold zsJ;rw[if_neg (fun e=>e hc),if_neg (fun e=>e h.cat)]
 unfold zii;rw[zyP (by omega) (by have:=h.len;omega),hk,zc,zp,if_pos rfl,h.scl,ht,zc];dsimp only;rw[zp,if_pos rfl,h.dig,zCJ hN c1 h1 (by omega) (by omega) c2,zc];dsimp only;rw[zp,if_pos rfl,c3,show quo (val d.Digits) d.Scale.toNat (sc:Int)%10^n=zb5 d n sc from rfl,hg,e2,zc,clip_is,zc]
end Go.Proofs.C06
end
