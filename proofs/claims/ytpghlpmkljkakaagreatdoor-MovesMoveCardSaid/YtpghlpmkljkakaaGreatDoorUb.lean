/-
  A part of the proof of the laws on moves.
-/
import Derived.Test.YtpghlpmkljkakaaGreatDoorUa
section
set_option maxRecDepth 100000
namespace Go.Proofs.C06
open Go Go.RowKit Go.Vc Go.Am Go.Dg
def nib:List UInt8→List UInt8
 |[]=>[]
 |x::r=>UInt8.ofNat (x.toNat/16)::UInt8.ofNat (x.toNat%16)::nib r
theorem zdt:∀b,(nib b).length=2*b.length
 |[]=>rfl
 |x::r=>by rw[nib,List.length_cons,List.length_cons,zdt r,List.length_cons];omega
theorem zes:∀a b,nib (a++b)=nib a++nib b
 |[],_=>rfl
 |x::a,b=>by rw[List.cons_append,nib,nib,zes a b];rfl
theorem zgZ:∀b,∀c∈nib b,c.toNat<16
 |[],c,h=>by cases h
 |x::r,c,h=>by
  have hx:=zad x;rw[nib]at h;rcases List.mem_cons.1 h with rfl|h
  ·rw[UInt8.toNat_ofNat'];omega
  ·rcases List.mem_cons.1 h with rfl|h
   ·rw[UInt8.toNat_ofNat'];omega
   ·exact zgZ r c h
theorem ym{n:Nat}(h:n≤1000000):zt 1 n=true:=by unfold zt;simp;omega
theorem zkk{b:List UInt8}{i:Nat}(h:i<b.length):nib (b.take (i+1))=nib (b.take i)++[UInt8.ofNat ((b.getD i 0).toNat/16),UInt8.ofNat ((b.getD i 0).toNat%16)]:=by
 have e:b.take (i+1)=b.take i++[b.getD i 0]:=by rw[List.take_add_one,List.getElem?_eq_getElem h,List.getD_eq_getElem?_getD,List.getElem?_eq_getElem h];rfl
 rw[e,zes];rfl
theorem zoa(c:UInt8):([(((c.toNat:Nat):Int)/2^(Int.toNat 4)),(bits .and .u8 ((c.toNat:Nat):Int) 15)].map toByte)=[UInt8.ofNat (c.toNat/16),UInt8.ofNat (c.toNat%16)]:=by
 rw[ztM];have e1:(((c.toNat:Nat):Int)/2^(Int.toNat 4))=((c.toNat/16:Nat):Int):=by show(((c.toNat:Nat):Int)/16)=_;omega
 have e2:((c.toNat:Nat):Int)%16=((c.toNat%16:Nat):Int):=by omega
 rw[e1,e2];rfl
theorem zqX(c:UInt8):(inKb .u8 (((c.toNat:Nat):Int)/2^(Int.toNat 4))&&(inKb .u8 (bits .and .u8 ((c.toNat:Nat):Int) 15)&&true))=true:=by
 have hc:=zad c;rw[ztM];have e1:(((c.toNat:Nat):Int)/2^(Int.toNat 4))=((c.toNat/16:Nat):Int):=by show(((c.toNat:Nat):Int)/16)=_;omega
 rw[e1,Zq (by omega) (by omega),Zq (by omega) (by omega)];rfl
def pdig(h:List UInt8):List UInt8:=h.map fun c=>UInt8.ofNat (c.toNat+48)
def zbI(sg:Bool)(l:UInt8):Prop:=if sg then l.toNat=12∨l.toNat=13 else l.toNat=15
instance(sg:Bool)(l:UInt8):Decidable (zbI sg l):=by unfold zbI;infer_instance
def rP(sg:Bool)(D:Nat)(b:List UInt8):digits×Bool:=if∀c∈(nib b).take (2*b.length-1),c.toNat≤9 then(digits.mk (decide (((nib b).getD (2*b.length-1) 0).toNat=13)) ((pdig ((nib b).take (2*b.length-1))).drop (2*b.length-1-D)),decide (zbI sg ((nib b).getD (2*b.length-1) 0)∧val ((pdig ((nib b).take (2*b.length-1))).take (2*b.length-1-D))=0))else(digits.mk false [],false)
theorem zgX{h:List UInt8}(hh:∀c∈h,c.toNat≤9):Digs (pdig h):=by intro x hx;unfold pdig at hx;obtain⟨c,hc,rfl⟩:=List.mem_map.1 hx;have:=hh c hc;rw[UInt8.toNat_ofNat'];omega
def zaQ(h:List UInt8)(t:Nat)(l:UInt8):List UInt8:=pdig (h.take t)++h.drop t++[l]
theorem zrj{h:List UInt8}{t:Nat}{l:UInt8}(ht:t≤h.length):(zaQ h t l).length=h.length+1:=by unfold zaQ pdig;simp[List.length_take,List.length_drop];omega
theorem zs0{h:List UInt8}{t:Nat}{l:UInt8}(ht:t<h.length):(zaQ h t l).getD t 0=h.getD t 0:=by
 unfold zaQ;have e:(pdig (h.take t)).length=t:=by unfold pdig;simp[List.length_take];omega
 rw[List.append_assoc,List.getD_eq_getElem?_getD,List.getElem?_append_right (by omega),e,Nat.sub_self,List.getElem?_append_left (by rw[List.length_drop];omega),List.getElem?_drop,Nat.add_zero,List.getD_eq_getElem?_getD]
theorem zri{h:List UInt8}{t:Nat}{l:UInt8}(ht:t<h.length):(zaQ h t l).set t (UInt8.ofNat ((h.getD t 0).toNat+48))=zaQ h (t+1) l:=by
 have e:(pdig (h.take t)).length=t:=by unfold pdig;simp[List.length_take];omega
 have e1:h.drop t=h.getD t 0::h.drop (t+1):=by rw[List.drop_eq_getElem_cons ht,List.getD_eq_getElem?_getD,List.getElem?_eq_getElem ht];rfl
 have e2:h.take (t+1)=h.take t++[h.getD t 0]:=by rw[List.take_add_one,List.getElem?_eq_getElem ht,List.getD_eq_getElem?_getD,List.getElem?_eq_getElem ht];rfl
 have e3:pdig (h.take (t+1))=pdig (h.take t)++[UInt8.ofNat ((h.getD t 0).toNat+48)]:=by rw[e2];unfold pdig;rw[List.map_append];rfl
 unfold zaQ;rw[e3,e1];have:pdig (h.take t)++h.getD t 0::h.drop (t+1)++[l]=pdig (h.take t)++(h.getD t 0::(h.drop (t+1)++[l])):=by simp
 rw[this,List.set_append_right _ _ (by omega),e,Nat.sub_self,List.set_cons_zero];simp
theorem zpt{h:List UInt8}{l:UInt8}:zaQ h h.length l=pdig h++[l]:=by unfold zaQ;rw[List.take_length,List.drop_length,List.append_nil]
theorem zf1{N:Nat}{f:form}{D n:Nat}{h:List UInt8}{l:UInt8}(hD:f.Digits=(D:Int))(hn:h.length=n)(hDn:D≤n)(hn2:n≤1000)(hh:∀c∈h,c.toNat≤9)(last:Int)(ok:Bool)(b1:digits):
  qN N 0 (n:Int) last ok f b1 (pdig h++[l])=some (digits.mk (decide (last=13)) ((pdig h).drop (n-D)),ok&&decide (val ((pdig h).take (n-D))=0)):=by
 have hp:(pdig h).length=n:=by unfold pdig;rw[List.length_map];exact hn
 unfold qN;have e1:(n:Int)-f.Digits=((n-D:Nat):Int):=by omega
 have es1:Vc.sub (pdig h++[l]) (0+0) ((0+0)+(((n-D:Nat):Int)-0))=(pdig h).take (n-D):=by unfold Vc.sub;rw[show((0:Int)+0).toNat=0 from rfl,List.drop_zero,show((0:Int)+0+(((n-D:Nat):Int)-0)).toNat=n-D by omega,List.take_append_of_le_length (by omega)]
 have es2:Vc.sub (pdig h++[l]) (0+((n-D:Nat):Int)) ((0+((n-D:Nat):Int))+((n:Int)-((n-D:Nat):Int)))=(pdig h).drop (n-D):=by unfold Vc.sub;rw[show((0:Int)+((n-D:Nat):Int)).toNat=n-D by omega,show(0+((n-D:Nat):Int)+((n:Int)-((n-D:Nat):Int))).toNat=n by omega,List.take_append_of_le_length (by omega),List.take_of_length_le (by omega)]
 obtain⟨t,t1,t2⟩:=zqp (s:=(pdig h).take (n-D)) (by rw[List.length_take];omega) ((zgX hh).take _);rw[e1,zg (by omega) (by omega),za,decide_eq_true (show(0:Int)≤((n-D:Nat):Int)by omega),decide_eq_true (show((n-D:Nat):Int)≤(n:Int)by omega),decide_eq_true (show(n:Int)≤(n:Int)by omega),es1,es2,t1,zc];cases ok<;>simp[t2]
theorem Vv{N:Nat}{f:form}{D n:Nat}{h:List UInt8}{l:UInt8}(hD:f.Digits=(D:Int))(hn:h.length=n)(hDn:D≤n)(hn2:n≤1000)(hs:∀c∈h,c.toNat<16)(b1:digits):∀(k t:Nat),t≤n→n-t<k→
  (∀c∈h.take t,c.toNat≤9)→
  Jc N k 0 (n:Int) ((l.toNat:Nat):Int) (n:Int) (t:Int) f b1 (zaQ h t l)=
   some (if∀c∈h,c.toNat≤9 then(digits.mk (decide (l.toNat=13)) ((pdig h).drop (n-D)),decide (zbI f.Signed l∧val ((pdig h).take (n-D))=0))else(digits.mk false [],false))
 |0,t,_,hk,_=>by omega
 |k+1,t,ht,hk,hin=>by
  show Qk N (Jc N k) 0 (n:Int) ((l.toNat:Nat):Int) (n:Int) (t:Int) f b1 (zaQ h t l)=_;unfold Qk;rw[zb];by_cases h1:t<n
  ·have hlen:=zrj (h:=h) (t:=t) (l:=l) (by omega);have hv:=zs0 (h:=h) (t:=t) (l:=l) (by omega);have hm:h.getD t 0∈h:=zkT (by omega);have hsm:=hs _ hm;rw[if_pos (by omega),decide_eq_true (show(0:Int)≤(t:Int)by omega),decide_eq_true (show(t:Int)<(n:Int)by omega),Bool.and_self,za,show(0:Int)+(t:Int)=(t:Int)by omega,zF (by omega),za,zu,hv,zb];by_cases h2:9<(h.getD t 0).toNat
   ·rw[if_pos (by omega),if_neg (fun hall=>by have:=hall _ hm;omega)]
   ·have e:(((h.getD t 0).toNat:Nat):Int)+48=(((h.getD t 0).toNat+48:Nat):Int):=by omega
    have e2:h.take (t+1)=h.take t++[h.getD t 0]:=by rw[List.take_add_one,List.getElem?_eq_getElem (by omega),List.getD_eq_getElem?_getD,List.getElem?_eq_getElem (by omega)];rfl
    rw[if_neg (by omega),za,za,za,e,jp (by omega) (by omega),Zq (by omega) (by omega),Bool.and_self,za,zg (by omega) (by omega),za,Int.toNat_natCast,Yt,zri (by omega),
     show(t:Int)+1=((t+1:Nat):Int)by omega]
    refine Vv hD hn hDn hn2 hs b1 k (t+1) (by omega) (by omega) fun c hc=>?_
    rw[e2]at hc;rcases List.mem_append.1 hc with hc|hc
    ·exact hin c hc
    ·rw[List.mem_singleton.1 hc];omega
  ·have htn:t=n:=by omega
   subst htn;have hall:∀c∈h,c.toNat≤9:=by rw[←hn,List.take_length]at hin;exact hin
   rw[if_neg (by omega),if_pos hall];have ef:zaQ h t l=pdig h++[l]:=by rw[←hn];exact zpt
   rw[ef];simp only[zf1 hD hn hDn hn2 hall];have h13:(((l.toNat:Nat):Int)=13)↔l.toNat=13:=by omega
   have h12:(((l.toNat:Nat):Int)=12)↔l.toNat=12:=by omega
   have h15:(((l.toNat:Nat):Int)=15)↔l.toNat=15:=by omega
   simp only[h13,h12,h15];unfold zbI;generalize val ((pdig h).take (t-D))=v;cases f.Signed with
   |true=>
    by_cases c1:l.toNat=12
    ·simp[c1]
    ·by_cases c2:l.toNat=13
     ·simp[c2]
     ·simp[c1,c2]
   |false=>
    by_cases c1:l.toNat=15
    ·simp[c1]
    ·simp[c1]
theorem Vw{N:Nat}(hN:3000<N){f:form}{D:Nat}{b:List UInt8}(hD:f.Digits=(D:Int))(hb:1≤b.length)(hDn:D≤2*b.length-1)(hb2:b.length≤300)(b1:digits):∀(k t:Nat),1≤t→t≤b.length→b.length-t<k→
  yO N k (.inr (b,(b.length:Int),(t:Int),f,b1,nib (b.take t)))=some (rP f.Signed D b)
 |0,t,_,_,hk=>by omega
 |k+1,t,h0,ht,hk=>by
  show Ya N (yO N k) b (b.length:Int) (t:Int) f b1 (nib (b.take t))=_;unfold Ya;rw[zb];by_cases h1:t<b.length
  ·have hln:(nib (b.take t)).length=2*t:=by rw[zdt,List.length_take];omega
   rw[if_pos (by omega),zF h1,za,zu,zqX,za,zoa,ym (by simp;omega),za,zg (by omega) (by omega),za,←zkk h1,show(t:Int)+1=((t+1:Nat):Int)by omega];exact Vw hN hD hb hDn hb2 b1 k (t+1) (by omega) (by omega) (by omega)
  ·have htb:t=b.length:=by omega
   subst htb;rw[List.take_length];have hln:=zdt b;have e1:(((nib b).length:Nat):Int)-1=((2*b.length-1:Nat):Int):=by omega
   have hin:zj 0 ((2*b.length-1:Nat):Int) (nib b).length=true:=by unfold zj;simp<;>omega
   have hsp:nib b=zaQ ((nib b).take (2*b.length-1)) 0 ((nib b).getD (2*b.length-1) 0):=by unfold zaQ pdig;rw[List.take_zero,List.map_nil,List.nil_append,List.drop_zero];have:=List.take_append_drop (2*b.length-1) (nib b);rw[List.drop_eq_getElem_cons (by omega),List.drop_eq_nil_of_le (by omega)]at this;rw[List.getD_eq_getElem?_getD,List.getElem?_eq_getElem (by omega)];exact this.symm
   rw[if_neg (by omega),e1,zg (by omega) (by omega),za,zF (by omega),za,za,za,hin,za,zu,show((2*b.length-1:Nat):Int)-0=((2*b.length-1:Nat):Int)by omega];have:=Vv (N:=N) (f:=f) (D:=D) (n:=2*b.length-1) (h:=(nib b).take (2*b.length-1)) (l:=(nib b).getD (2*b.length-1) 0) hD (by rw[List.length_take];omega) hDn (by omega)
    (fun c hc=>zgZ b c (List.mem_of_mem_take hc)) b1 N 0 (by omega) (by omega) (by simp)
   rw[←hsp]at this;exact this
theorem zl3{N:Nat}(hN:3000<N){f:form}{D:Nat}{b:List UInt8}(hD:f.Digits=(D:Int))(hb:1≤b.length)(hDn:D≤2*b.length-1)(hb2:b.length≤300):zab N f b=some (rP f.Signed D b):=by
 unfold zab;obtain⟨M,rfl⟩:∃M,N=M+1:=⟨N-1,by omega⟩
 show Yb (M+1) (yO (M+1) M) b (b.length:Int) 0 f (digits.mk false [])=_;unfold Yb;have:=zkk (b:=b) (i:=0) (by omega);rw[List.take_zero]at this;rw[zb,if_pos (by omega),show(0:Int)=((0:Nat):Int)from rfl,zF (by omega),za,zu,zqX,za,zoa,ym (by simp),za,zg (by omega) (by omega),za];have e0:([]:List UInt8)++[UInt8.ofNat ((b.getD 0 0).toNat/16),UInt8.ofNat ((b.getD 0 0).toNat%16)]=nib (b.take (0+1)):=this.symm;rw[e0,show((0:Nat):Int)+1=((0+1:Nat):Int)by omega];exact Vw hN hD hb hDn hb2 _ M (0+1) (by omega) (by omega) (by omega)
def pk(l:UInt8):List UInt8→List UInt8
 |[]=>[]
 |[a]=>[UInt8.ofNat (16*(a.toNat-48)+l.toNat)]
 |a::c::r=>UInt8.ofNat (16*(a.toNat-48)+(c.toNat-48))::pk l r
def odd(s:List UInt8):List UInt8:=if s.length%2=0 then 48::s else s
def wP(sg ng:Bool)(s:List UInt8):List UInt8:=pk (if sg then(if ng then 13 else 12)else 15) (odd s)
theorem zmt(l:UInt8):∀s,s.length%2=1→(pk l s).length=s.length/2+1
 |[],h=>by simp at h
 |[a],_=>by simp[pk]
 |a::c::r,h=>by simp only[List.length_cons]at h;rw[pk,List.length_cons,zmt l r (by omega),List.length_cons,List.length_cons];omega
theorem zqW{l:UInt8}(hl:l.toNat<16):∀s,s.length%2=1→Digs s→nib (pk l s)=(s.map fun c=>UInt8.ofNat (c.toNat-48))++[l]
 |[],h,_=>by simp at h
 |[a],_,hd=>by
  have ha:=(Digs.cons.1 hd).1;have e:(UInt8.ofNat (16*(a.toNat-48)+l.toNat)).toNat=16*(a.toNat-48)+l.toNat:=by rw[UInt8.toNat_ofNat'];omega
  rw[pk,nib,e,show(16*(a.toNat-48)+l.toNat)/16=a.toNat-48 by omega,show(16*(a.toNat-48)+l.toNat)%16=l.toNat by omega,UInt8.ofNat_toNat];rfl
 |a::c::r,h,hd=>by
  simp only[List.length_cons]at h;rw[Digs.cons,Digs.cons]at hd;obtain⟨ha,hc,hr⟩:=hd;have e:(UInt8.ofNat (16*(a.toNat-48)+(c.toNat-48))).toNat=16*(a.toNat-48)+(c.toNat-48):=by rw[UInt8.toNat_ofNat'];omega
  rw[pk,nib,e,show(16*(a.toNat-48)+(c.toNat-48))/16=a.toNat-48 by omega,show(16*(a.toNat-48)+(c.toNat-48))%16=c.toNat-48 by omega,zqW hl r (by omega) hr];rfl
theorem ztD(l:UInt8):∀(s:List UInt8)(i:Nat),s.length%2=1→2*i<s.length→
  (pk l s).getD i 0=UInt8.ofNat (16*((s.getD (2*i) 0).toNat-48)+(if 2*i+1<s.length then(s.getD (2*i+1) 0).toNat-48 else l.toNat))
 |[],i,h,_=>by simp at h
 |[a],i,_,h=>by
  have:i=0:=by simp at h;omega
  subst this;rfl
 |a::c::r,0,_,_=>by rw[if_pos (by simp)];rfl
 |a::c::r,i+1,h,hi=>by
  simp only[List.length_cons]at h hi;have:=ztD l r i (by omega) (by omega);rw[pk,List.getD_cons_succ,this,show 2*(i+1)=2*i+1+1 by omega,List.getD_cons_succ,List.getD_cons_succ,List.getD_cons_succ,List.getD_cons_succ];simp only[List.length_cons];by_cases h2:2*i+1<r.length
  ·rw[if_pos h2,if_pos (by omega)]
  ·rw[if_neg h2,if_neg (by omega)]
theorem zn6(s:List UInt8):(odd s).length%2=1∧(odd s).length=2*(s.length/2)+1:=by
 unfold odd;split
 ·rw[List.length_cons];omega
 ·omega
theorem zqV{s:List UInt8}(h:Digs s):Digs (odd s):=by
 unfold odd;split
 ·exact Digs.cons.2 ⟨by decide,h⟩
 ·exact h
theorem zkX{p:List UInt8}{t n:Nat}(ht:t<n)(hp:p.length=n):((p.take t++List.replicate (n-t) 0).set t (p.getD t 0))=p.take (t+1)++List.replicate (n-(t+1)) 0:=by
 have e:(p.take t).length=t:=by rw[List.length_take];omega
 have e2:p.take (t+1)=p.take t++[p.getD t 0]:=by rw[List.take_add_one,List.getElem?_eq_getElem (by omega),List.getD_eq_getElem?_getD,List.getElem?_eq_getElem (by omega)];rfl
 rw[List.set_append_right _ _ (by omega),e,Nat.sub_self,show n-t=(n-(t+1))+1 by omega,List.replicate_succ,List.set_cons_zero,e2];simp
theorem Xe{N:Nat}{l:UInt8}(hl:l.toNat<16){s:List UInt8}{n:Nat}(ho:s.length%2=1)(hn:s.length/2+1=n)(hn2:n≤300)(hd:Digs s):∀(k t:Nat),t≤n→n-t<k→
  jV N k ((l.toNat:Nat):Int) s (n:Int) (t:Int) ((pk l s).take t++List.replicate (n-t) 0)=some (pk l s)
 |0,t,_,hk=>by omega
 |k+1,t,ht,hk=>by
  have hpl:(pk l s).length=n:=by rw[zmt l s ho];exact hn
  show Z8 N (jV N k) ((l.toNat:Nat):Int) s (n:Int) (t:Int) _=_;unfold Z8;rw[zb];by_cases h1:t<n
  ·have hlen:((pk l s).take t++List.replicate (n-t) (0:UInt8)).length=n:=by rw[List.length_append,List.length_take,List.length_replicate];omega
   have hat:=ztD l s t ho (by omega);have hD1:=yB hd (show 2*t<s.length by omega);have e2:(2:Int)*(t:Int)=((2*t:Nat):Int):=by omega
   have e3:((2*t:Nat):Int)+1=((2*t+1:Nat):Int):=by omega
   have step:∀w:Nat,w<16→(pk l s).getD t 0=UInt8.ofNat (16*((s.getD (2*t) 0).toNat-48)+w)→
     qk N (jV N k) ((l.toNat:Nat):Int) s (t:Int) (w:Int) (n:Int) (t:Int) ((pk l s).take t++List.replicate (n-t) 0)=some (pk l s):=by
    intro w hw he;unfold qk;have e4:(((s.getD (2*t) 0).toNat:Nat):Int)-48=(((s.getD (2*t) 0).toNat-48:Nat):Int):=by omega
    have e5:((((s.getD (2*t) 0).toNat-48:Nat):Int)*2^(Int.toNat 4))=((16*((s.getD (2*t) 0).toNat-48):Nat):Int):=by show(((s.getD (2*t) 0).toNat-48:Nat):Int)*16=_;omega
    have w1:IntKind.wrap .u8 (((s.getD (2*t) 0).toNat-48:Nat):Int)=(((s.getD (2*t) 0).toNat-48:Nat):Int):=jp (by omega) (by omega);rw[e2,zg (by omega) (by omega),za,zF (by omega),za,zF (by omega),za,zu,e4,w1,e5,jp (by omega) (by omega),zu1 (by omega) (by omega) (by omega),
     show(((16*((s.getD (2*t) 0).toNat-48):Nat):Int)+(w:Int))%256=((16*((s.getD (2*t) 0).toNat-48)+w:Nat):Int)by omega,Zq (by omega) (by omega),Bool.and_self,za,zg (by omega) (by omega),za,
     Int.toNat_natCast,Yt,←he,zkX h1 hpl,show(t:Int)+1=((t+1:Nat):Int)by omega]
    exact Xe hl ho hn hn2 hd k (t+1) (by omega) (by omega)
   rw[if_pos (by omega),e2,zg (by omega) (by omega),za,e3,zg (by omega) (by omega),za,zb,za,za];by_cases h2:2*t+1<s.length
   ·have hD2:=yB hd h2;have e4:(((s.getD (2*t+1) 0).toNat:Nat):Int)-48=(((s.getD (2*t+1) 0).toNat-48:Nat):Int):=by omega
    rw[if_pos (by omega),zF h2,za,zu,e4,jp (by omega) (by omega)];exact step _ (by omega) (by rw[hat,if_pos h2])
   ·rw[if_neg (by omega)];exact step _ hl (by rw[hat,if_neg h2])
  ·have htn:t=n:=by omega
   subst htn;rw[if_neg (by omega),Nat.sub_self,List.replicate_zero,List.append_nil,List.take_of_length_le (by omega)]
theorem Xf{N:Nat}(hN:3000<N){l:UInt8}(hl:l.toNat<16){s:List UInt8}(ho:s.length%2=1)(hs:s.length≤300)(hd:Digs s):qm N ((l.toNat:Nat):Int) s=some (pk l s):=by
 unfold qm;have e1:((s.length:Int)/2)+1=((s.length/2+1:Nat):Int):=by omega
 have e0:(ze (s.length:Int)&&decide (0<2)&&inKb .i64 ((s.length:Int)/2))=true:=by rw[zg (by omega) (by omega)];simp[ze]
 have e2:XO 1 ((s.length/2+1:Nat):Int)=true:=by show(Nat.ble (1*(s.length/2+1)) 281474976710656&&Nat.ble (s.length/2+1) 9223372036854775807)=true;rw[Nat.ble_eq_true_of_le (by omega),Nat.ble_eq_true_of_le (by omega)];rfl
 rw[e0,za,e1,zg (by omega) (by omega),za,e2,decide_eq_true rfl,Bool.and_self,za,Int.toNat_natCast,List.length_replicate];have:=Xe (N:=N) hl ho (n:=s.length/2+1) rfl (by omega) hd N 0 (by omega) (by omega);rw[List.take_zero,List.nil_append,Nat.sub_zero]at this;exact this
theorem zhR{N:Nat}(hN:3000<N){f:form}{d:digits}(hs:d.s.length≤200)(hd:Digs d.s):ZR N f d=some (wP f.Signed d.neg d.s):=by
 have k0:∀(w:Int)(l:UInt8),w=((l.toNat:Nat):Int)→l.toNat<16→yw N w d=some (pk l (odd d.s)):=by
  intro w l hw hl;subst hw;unfold yw odd;have e0:(ze (d.s.length:Int)&&decide (0<2))=true:=by simp[ze]
  rw[e0,za,zb];by_cases h:d.s.length%2=0
  ·rw[if_pos (by omega),if_pos h,zN (by simp;omega),za];exact Xf hN hl (by simp;omega) (by simp;omega) (Digs.cons.2 ⟨by decide,hd⟩)
  ·rw[if_neg (by omega),if_neg h];exact Xf hN hl (by omega) (by omega) hd
 unfold ZR wP;rw[k0 13 13 rfl (by decide),k0 12 12 rfl (by decide),k0 15 15 rfl (by decide)];cases f.Signed<;>cases d.neg<;>rfl
theorem zqh{sg ng:Bool}{s:List UInt8}:(wP sg ng s).length=s.length/2+1:=by unfold wP;obtain⟨h1,h2⟩:=zn6 s;rw[zmt _ _ h1,h2];omega
theorem zqO{s:List UInt8}(hd:Digs s):pdig (s.map fun c=>UInt8.ofNat (c.toNat-48))=s:=by
 unfold pdig;rw[List.map_map];conv=>rhs;rw[←List.map_id s]
 refine List.map_congr_left fun c hc=>?_
 have h:=hd c hc;show UInt8.ofNat ((UInt8.ofNat (c.toNat-48)).toNat+48)=c;apply UInt8.toNat_inj.1;rw[UInt8.toNat_ofNat',UInt8.toNat_ofNat'];omega
theorem zuX{sg ng:Bool}{n:Nat}{s:List UInt8}(hs:s.length=n)(hd:Digs s):rP sg n (wP sg ng s)=(digits.mk (sg&&ng) s,true):=by
 obtain⟨h1,h2⟩:=zn6 s;have hod:=zqV hd;have hlen:=zqh (sg:=sg) (ng:=ng) (s:=s);obtain⟨l,hl,hl16⟩:∃l:UInt8,l=(if sg then(if ng then 13 else 12)else 15)∧l.toNat<16:=⟨_,rfl,by cases sg<;>cases ng<;>decide⟩
 have hnib:nib (wP sg ng s)=((odd s).map fun c=>UInt8.ofNat (c.toNat-48))++[l]:=by unfold wP;rw[←hl];exact zqW hl16 _ h1 hod
 have hm:2*(wP sg ng s).length-1=(odd s).length:=by omega
 unfold rP;rw[hm,hnib];have e1:(((odd s).map fun c=>UInt8.ofNat (c.toNat-48))++[l]).take (odd s).length=(odd s).map fun c=>UInt8.ofNat (c.toNat-48):=by rw[List.take_append_of_le_length (by simp),List.take_of_length_le (by simp)]
 have e2:(((odd s).map fun c=>UInt8.ofNat (c.toNat-48))++[l]).getD (odd s).length 0=l:=by rw[List.getD_eq_getElem?_getD,List.getElem?_append_right (by simp)];simp
 rw[e1,e2,zqO hod];have hall:∀c∈(odd s).map fun c=>UInt8.ofNat (c.toNat-48),c.toNat≤9:=by intro x hx;obtain⟨c,hc,rfl⟩:=List.mem_map.1 hx;have:=hod c hc;rw[UInt8.toNat_ofNat'];omega
 rw[if_pos hall];have e3:(odd s).drop ((odd s).length-n)=s:=by
  unfold odd;split
  ·rw[List.length_cons,hs,show n+1-n=1 by omega,List.drop_one,List.tail_cons]
  ·rw[hs,Nat.sub_self,List.drop_zero]
 have e4:val ((odd s).take ((odd s).length-n))=0:=by
  unfold odd;split
  ·rw[List.length_cons,hs,show n+1-n=1 by omega];rfl
  ·rw[hs,Nat.sub_self,List.take_zero];rfl
 rw[e3,e4,hl];cases sg<;>cases ng<;>simp[zbI]<;>decide
end Go.Proofs.C06
end
section
set_option maxRecDepth 100000
namespace Go.Proofs.C06
open Go Go.RowKit Go.Vc Go.Am Go.Dg
def bev(l:List UInt8):Nat:=l.foldl (fun a c=>256*a+c.toNat) 0
theorem Kt(l:List UInt8)(c:UInt8):bev (l++[c])=256*bev l+c.toNat:=by unfold bev;rw[List.foldl_append];rfl
theorem jE{b:List UInt8}{i:Nat}(h:i<b.length):b.take (i+1)=b.take i++[b.getD i 0]:=by rw[List.take_add_one,List.getElem?_eq_getElem h,List.getD_eq_getElem?_getD,List.getElem?_eq_getElem h];rfl
theorem znt(b:List UInt8):∀n,n≤b.length→bev (b.take n)<256^n
 |0,_=>by simp[bev]
 |n+1,h=>by have ih:=znt b n (by omega);have hc:=zad (b.getD n 0);rw[jE (by omega),Kt,Nat.pow_succ];omega
def be:Nat→Nat→List UInt8
 |0,_=>[]
 |k+1,v=>be k (v/256)++[UInt8.ofNat (v%256)]
theorem WR:∀k v,(be k v).length=k
 |0,_=>rfl
 |k+1,v=>by rw[be,List.length_append,WR k];rfl
theorem zsa:∀k v,bev (be k v)=v%256^k
 |0,v=>by simp[be,bev,Nat.mod_one]
 |k+1,v=>by
  have e:(UInt8.ofNat (v%256)).toNat=v%256:=by rw[UInt8.toNat_ofNat'];omega
  rw[be,Kt,zsa k,e,Nat.pow_succ,Nat.mul_comm (256^k) 256,Nat.mod_mul];omega
theorem zsc:∀(k v i:Nat),i<k→(be k v).getD i 0=UInt8.ofNat (v/256^(k-1-i)%256)
 |0,_,i,h=>by omega
 |k+1,v,i,h=>by
  rw[be];by_cases hi:i<k
  ·rw[List.getD_eq_getElem?_getD,List.getElem?_append_left (by rw[WR];exact hi),←List.getD_eq_getElem?_getD,zsc k _ i hi,Nat.div_div_eq_div_mul,←Nat.pow_succ',show(k-1-i).succ=k+1-1-i by omega]
  ·have:i=k:=by omega
   subst this;rw[List.getD_eq_getElem?_getD,List.getElem?_append_right (by rw[WR];omega),WR,Nat.sub_self,show i+1-1-i=0 by omega,Nat.pow_zero,Nat.div_one];rfl
theorem zhh:∀(t m:Nat),fmt (t+1) m=UInt8.ofNat (48+m/10^t%10)::fmt t m
 |0,m=>by simp[fmt]
 |t+1,m=>by rw[fmt,zhh t (m/10),List.cons_append,Nat.div_div_eq_div_mul,←Nat.pow_succ'];rfl
def rB(sg:Bool)(D:Nat)(b:List UInt8):digits×Bool:=(digits.mk (sg&&decide (128≤(b.getD 0 0).toNat)) (fmt D (if sg&&decide (128≤(b.getD 0 0).toNat)then 256^b.length-bev b else bev b)),decide ((if sg&&decide (128≤(b.getD 0 0).toNat)then 256^b.length-bev b else bev b)<10^D))
theorem Vx{N:Nat}{D m:Nat}(hD:D≤100)(hm:m<18446744073709551616)(ng:Bool)(b0:digits):∀(k t:Nat),t≤D→D-t<k→
  Jd N k ((m/10^t:Nat):Int) ng (fmt t m) (D:Int) (t:Int) b0=some (digits.mk ng (fmt D m),decide (m<10^D))
 |0,t,_,hk=>by omega
 |k+1,t,ht,hk=>by
  show Ql N (Jd N k) ((m/10^t:Nat):Int) ng (fmt t m) (D:Int) (t:Int) b0=_;unfold Ql;rw[zb];have hle:m/10^t≤m:=Nat.div_le_self _ _;by_cases h1:t<D
  ·have e0:(ze ((m/10^t:Nat):Int)&&decide (0<10))=true:=by unfold ze;rw[decide_eq_true (Int.natCast_nonneg _)];rfl
   have e1:((m/10^t:Nat):Int)%10=((m/10^t%10:Nat):Int):=by omega
   have e2:((m/10^t:Nat):Int)/10=((m/10^(t+1):Nat):Int):=by rw[Nat.pow_succ,←Nat.div_div_eq_div_mul];omega
   have hlt:m/10^t%10<10:=Nat.mod_lt _ (by decide);have hw:IntKind.wrap .u64 (((m/10^t%10:Nat):Int)+1)=((m/10^t%10:Nat):Int)+1:=by rw[wrap_u64];omega
   have hsub:Vc.sub ([48,49,50,51,52,53,54,55,56,57]:List UInt8) ((m/10^t%10:Nat):Int) (((m/10^t%10:Nat):Int)+1)=[UInt8.ofNat (48+m/10^t%10)]:=by
    have:∀q:Fin 10,Vc.sub ([48,49,50,51,52,53,54,55,56,57]:List UInt8) ((q.val:Nat):Int) (((q.val:Nat):Int)+1)=[UInt8.ofNat (48+q.val)]:=by decide
    exact this ⟨m/10^t%10,hlt⟩
   have hin:zj ((m/10^t%10:Nat):Int) (((m/10^t%10:Nat):Int)+1) ([48,49,50,51,52,53,54,55,56,57]:List UInt8).length=true:=by unfold zj;simp<;>omega
   have hu:inKb .u64 ((m/10^(t+1):Nat):Int)=true:=yl.2 ⟨Int.natCast_nonneg _,by
    show _≤(18446744073709551615:Int);have h:=Nat.div_le_self m (10^(t+1));generalize m/10^(t+1)=q at h⊢;omega⟩
   have e3:[UInt8.ofNat (48+m/10^t%10)]++fmt t m=fmt (t+1) m:=(zhh t m).symm;rw[if_pos (by omega),e0,za,za,e1,hw,hin,za,hsub,zN (by rw[je];simp;omega),za,Bool.true_and,e2,hu,za,zg (by omega) (by omega),za,e3,show(t:Int)+1=((t+1:Nat):Int)by omega];exact Vx hD hm ng b0 k (t+1) (by omega) (by omega)
  ·have htD:t=D:=by omega
   subst htD;rw[if_neg (by omega)];congr 2;rw[decide_eq_decide];have hp:=pow_pos t;constructor
   ·intro h;have h:m/10^t=0:=by omega
    rcases Nat.div_eq_zero_iff.1 h with h|h
    ·omega
    ·exact h
   ·intro h;rw[Nat.div_eq_of_lt h];rfl
theorem q7{N:Nat}(hN:3000<N){f:form}{D m:Nat}(hfD:f.Digits=(D:Int))(hD:D≤100)(hm:m<18446744073709551616)(ng:Bool)(b0:digits):qO N (m:Int) ng f b0=some (digits.mk ng (fmt D m),decide (m<10^D)):=by unfold qO;rw[hfD];have:=Vx (N:=N) hD hm ng b0 N 0 (by omega) (by omega);rw[Nat.pow_zero,Nat.div_one]at this;exact this
theorem zjL{b:List UInt8}(h:1≤b.length):∀n,1≤n→n≤b.length→bev (b.take n)/256^(n-1)=(b.getD 0 0).toNat
 |0,h0,_=>by omega
 |1,_,_=>by rw[jE (by omega),List.take_zero,Kt];simp[bev]
 |n+2,_,hn=>by have ih:=zjL h (n+1) (by omega) (by omega);have hc:=zad (b.getD (n+1) 0);rw[jE (by omega),Kt,show n+2-1=(n+1-1)+1 by omega,Nat.pow_succ',←Nat.div_div_eq_div_mul,show(256*bev (b.take (n+1))+(b.getD (n+1) 0).toNat)/256=bev (b.take (n+1))by omega];exact ih
theorem Vy{N:Nat}(hN:3000<N){f:form}{D:Nat}{b:List UInt8}(hfD:f.Digits=(D:Int))(hD:D≤100)(hb:b.length=2∨b.length=4∨b.length=8)(d:digits):∀(k t:Nat),t≤b.length→b.length-t<k→
  Je N k b ((bev (b.take t):Nat):Int) b (b.length:Int) (t:Int) f d=some (rB f.Signed D b)
 |0,t,_,hk=>by omega
 |k+1,t,ht,hk=>by
  show Qm N (Je N k) b ((bev (b.take t):Nat):Int) b (b.length:Int) (t:Int) f d=_;unfold Qm;rw[zb];by_cases h1:t<b.length
  ·have hlt:=znt b t (by omega);have hlt7:bev (b.take t)<72057594037927936:=Nat.lt_of_lt_of_le hlt (by have:=Nat.pow_le_pow_right (show 0<256 by decide) (show t≤7 by omega);simpa using this);have hc:=zad (b.getD t 0);have e1:((bev (b.take t):Nat):Int)*2^(Int.toNat 8)=((256*bev (b.take t):Nat):Int):=by show((bev (b.take t):Nat):Int)*256=_;omega
   have e2:bits .or .u64 (IntKind.wrap .u64 (((bev (b.take t):Nat):Int)*2^(Int.toNat 8))) (IntKind.wrap .u64 (((b.getD t 0).toNat:Nat):Int))=((bev (b.take (t+1)):Nat):Int):=by rw[e1,wrap_u64,wrap_u64,zt6 (by omega) (by omega) (by omega),jE h1,Kt];omega
   rw[if_pos (by omega),zF h1,za,zg (by omega) (by omega),za,zu,e2,show(t:Int)+1=((t+1:Nat):Int)by omega];exact Vy hN hfD hD hb d k (t+1) (by omega) (by omega)
  ·have htb:t=b.length:=by omega
   subst htb;have hlt:=znt b b.length (Nat.le_refl _);have htop:=zjL (b:=b) (by omega) b.length (by omega) (Nat.le_refl _);rw[List.take_length]at hlt htop⊢;rw[if_neg (by omega),zF (show 0<b.length by omega)|>fun h=>(show inIx 0 b.length=true from h),za];have eb:byteAt b 0=(((b.getD 0 0).toNat:Nat):Int):=rfl;have e128:((128:Int)≤(((b.getD 0 0).toNat:Nat):Int))↔128≤(b.getD 0 0).toNat:=by omega
   have hno:∀ng,ng=false→qP N b ((bev b:Nat):Int) ng f d=some (digits.mk false (fmt D (bev b)),decide (bev b<10^D)):=by rintro _ rfl;unfold qP;rw[cond_false];refine q7 hN hfD hD ?_ _ _;rcases hb with h|h|h<;>rw[h]at hlt<;>omega
   unfold rB;cases f.Signed with
   |false=>rw[cond_false,hno _ rfl];simp
   |true=>
    rw[cond_true,eb];by_cases hg:128≤(b.getD 0 0).toNat
    ·rw[decide_eq_true (e128.2 hg),decide_eq_true hg];simp only[Bool.and_self,if_true];unfold qP;rw[cond_true,zb];rcases hb with h|h|h
     ·rw[h]at hlt htop⊢;have w1:IntKind.wrap .u64 (-((bev b:Nat):Int))=18446744073709551616-((bev b:Nat):Int):=by rw[wrap_u64];omega
      have w2:IntKind.wrap .u64 (IntKind.wrap .u64 (1*2^(8*((2:Nat):Int)).toNat)-1)=((2^16-1:Nat):Int):=by decide
      have w3:bits .and .u64 (18446744073709551616-((bev b:Nat):Int)) ((2^16-1:Nat):Int)=((256^2-bev b:Nat):Int):=by rw[ZN (by decide),wrap_u64];omega
      rw[if_pos (by decide),zg (by decide) (by decide),za,show(ze (8*((2:Nat):Int))&&Nat.ble (8*((2:Nat):Int)).toNat 64)=true by decide,za,w1,w2,w3];exact q7 hN hfD hD (by omega) _ _
     ·rw[h]at hlt htop⊢;have w1:IntKind.wrap .u64 (-((bev b:Nat):Int))=18446744073709551616-((bev b:Nat):Int):=by rw[wrap_u64];omega
      have w2:IntKind.wrap .u64 (IntKind.wrap .u64 (1*2^(8*((4:Nat):Int)).toNat)-1)=((2^32-1:Nat):Int):=by decide
      have w3:bits .and .u64 (18446744073709551616-((bev b:Nat):Int)) ((2^32-1:Nat):Int)=((256^4-bev b:Nat):Int):=by rw[ZN (by decide),wrap_u64];omega
      rw[if_pos (by decide),zg (by decide) (by decide),za,show(ze (8*((4:Nat):Int))&&Nat.ble (8*((4:Nat):Int)).toNat 64)=true by decide,za,w1,w2,w3];exact q7 hN hfD hD (by omega) _ _
     ·rw[h]at hlt htop⊢;have w1:IntKind.wrap .u64 (-((bev b:Nat):Int))=((256^8-bev b:Nat):Int):=by rw[wrap_u64];omega
      rw[if_neg (by decide),w1];exact q7 hN hfD hD (by omega) _ _
    ·rw[decide_eq_false (fun h=>hg (e128.1 h)),decide_eq_false hg,hno _ rfl];simp
theorem zl4{N:Nat}(hN:3000<N){f:form}{D:Nat}{b:List UInt8}(hfD:f.Digits=(D:Int))(hD:D≤100)(hb:b.length=2∨b.length=4∨b.length=8):zac N f b=some (rB f.Signed D b):=by unfold zac;exact Vy hN hfD hD hb _ N 0 (by omega) (by omega)
def wB(k:Nat)(ng:Bool)(s:List UInt8):List UInt8:=be k (if ng then(18446744073709551616-val s)%18446744073709551616 else val s)
theorem Xg{N:Nat}{f:form}{x k:Nat}(hk:f.Size=(k:Int))(hk8:k≤8):∀(n t:Nat),t≤k→k-t<n→
  qn N n (x:Int) (k:Int) (t:Int) f ((be k x).take t++List.replicate (k-t) 0)=some (be k x)
 |0,t,_,hn=>by omega
 |n+1,t,ht,hn=>by
  have hl:=WR k x;show Z9 N (qn N n) (x:Int) (k:Int) (t:Int) f _=_;unfold Z9;rw[zb];by_cases h1:t<k
  ·have hlen:((be k x).take t++List.replicate (k-t) (0:UInt8)).length=k:=by rw[List.length_append,List.length_take,List.length_replicate];omega
   have e1:(f.Size-1)-(t:Int)=((k-1-t:Nat):Int):=by omega
   have e2:(8:Int)*((k-1-t:Nat):Int)=((8*(k-1-t):Nat):Int):=by omega
   have e3:(ze ((8*(k-1-t):Nat):Int)&&Nat.ble (((8*(k-1-t):Nat):Int)).toNat 64)=true:=by rw[Int.toNat_natCast,Nat.ble_eq_true_of_le (by omega),Bool.and_true];exact decide_eq_true (by omega)
   have e4:(x:Int)/2^(((8*(k-1-t):Nat):Int)).toNat=((x/256^(k-1-t):Nat):Int):=by
    have e:(2:Int)^(8*(k-1-t))=((256^(k-1-t):Nat):Int):=by
     rw[show(256:Nat)=2^8 from rfl,←Nat.pow_mul]
     norm_cast
    rw[Int.toNat_natCast,e,←Int.natCast_ediv]
   have e5:IntKind.wrap .u8 ((x/256^(k-1-t):Nat):Int)=((x/256^(k-1-t)%256:Nat):Int):=by rw[WY];omega
   rw[if_pos (by omega),zg (by omega) (by omega),za,e1,zg (by omega) (by omega),za,e2,zg (by omega) (by omega),za,e3,za,zF (by omega),za,e4,e5,Zq (by omega) (by omega),Bool.and_self,za,
    zg (by omega) (by omega),za,Int.toNat_natCast,Yt,←zsc k x t h1,zkX h1 hl,show(t:Int)+1=((t+1:Nat):Int)by omega]
   exact Xg hk hk8 n (t+1) (by omega) (by omega)
  ·have:t=k:=by omega
   subst this;rw[if_neg (by omega),Nat.sub_self,List.replicate_zero,List.append_nil,List.take_of_length_le (by omega)]
theorem Xi{N:Nat}(hN:3000<N){f:form}{x k:Nat}(hk:f.Size=(k:Int))(hk8:k≤8):qp N (x:Int) f=some (be k x):=by
 unfold qp;have e2:XO 1 (k:Int)=true:=by show(Nat.ble (1*k) 281474976710656&&Nat.ble k 9223372036854775807)=true;rw[Nat.ble_eq_true_of_le (by omega),Nat.ble_eq_true_of_le (by omega)];rfl
 rw[hk,e2,decide_eq_true rfl,Bool.and_self,za,Int.toNat_natCast,List.length_replicate];have:=Xg (N:=N) (x:=x) hk hk8 N 0 (by omega) (by omega);rw[List.take_zero,List.nil_append,Nat.sub_zero]at this;exact this
theorem Xh{N:Nat}(hN:3000<N){f:form}{d:digits}{k:Nat}(hk:f.Size=(k:Int))(hk8:k≤8)(hs:d.s.length≤18)(hd:Digs d.s):∀(n t:Nat),t≤d.s.length→d.s.length-t<n→
  qo N n ((val (d.s.take t):Nat):Int) (d.s.length:Int) (t:Int) f d=some (wB k d.neg d.s)
 |0,t,_,hn=>by omega
 |n+1,t,ht,hn=>by
  show Ja N (qo N n) ((val (d.s.take t):Nat):Int) (d.s.length:Int) (t:Int) f d=_;unfold Ja;rw[zb];have hv:=js (hd.take t);have hv18:val (d.s.take t)<1000000000000000000:=Nat.lt_of_lt_of_le hv (by
   have:=Nat.pow_le_pow_right (show 0<10 by decide) (show(d.s.take t).length≤18 by rw[List.length_take];omega);simpa using this)
  by_cases h1:t<d.s.length
  ·have hc:=yB hd h1;have e1:(((d.s.getD t 0).toNat:Nat):Int)-48=(((d.s.getD t 0).toNat-48:Nat):Int):=by omega
   have e2:IntKind.wrap .u64 (IntKind.wrap .u64 (10*((val (d.s.take t):Nat):Int))+IntKind.wrap .u64 (IntKind.wrap .u8 ((((d.s.getD t 0).toNat:Nat):Int)-48)))=((val (d.s.take (t+1)):Nat):Int):=by rw[e1,jp (by omega) (by omega),wrap_u64,wrap_u64,wrap_u64,jE h1,Z6];omega
   rw[if_pos (by omega),zF h1,za,zg (by omega) (by omega),za,zu,e2,show(t:Int)+1=((t+1:Nat):Int)by omega];exact Xh hN hk hk8 hs hd n (t+1) (by omega) (by omega)
  ·have:t=d.s.length:=by omega
   subst this;rw[List.take_length]at hv18⊢;rw[if_neg (by omega)];unfold wB;cases d.neg with
   |true=>
    have e:IntKind.wrap .u64 (-((val d.s:Nat):Int))=(((18446744073709551616-val d.s)%18446744073709551616:Nat):Int):=by rw[wrap_u64];omega
    rw[cond_true,e,Xi hN hk hk8];rfl
   |false=>rw[cond_false,Xi hN hk hk8];rfl
theorem zhS{N:Nat}(hN:3000<N){f:form}{d:digits}{k:Nat}(hk:f.Size=(k:Int))(hk8:k≤8)(hs:d.s.length≤18)(hd:Digs d.s):ZS N f d=some (wB k d.neg d.s):=by unfold ZS;have:=Xh (N:=N) hN hk hk8 hs hd N 0 (by omega) (by omega);rw[List.take_zero]at this;exact this
theorem ztP{k:Nat}{ng:Bool}{s:List UInt8}:(wB k ng s).length=k:=WR _ _
def binW(n:Nat):Nat:=if n≤4 then 2 else if n≤9 then 4 else 8
theorem zuY{sg ng:Bool}{n:Nat}{s:List UInt8}(hn:n≤18)(hs:s.length=n)(hd:Digs s)(hsg:ng=true→sg=true∧val s≠0):rB sg n (wB (binW n) ng s)=(digits.mk ng s,true):=by
 have hv:=js hd;rw[hs]at hv;have hf:fmt n (val s)=s:=by rw[←hs];exact zom hd
 have hbound:binW n=2∧val s<10000∨binW n=4∧val s<1000000000∨binW n=8∧val s<1000000000000000000:=by
  unfold binW;have hle:∀m,n≤m→val s<10^m:=fun m hm=>Nat.lt_of_lt_of_le hv (Nat.pow_le_pow_right (by decide) hm)
  by_cases h4:n≤4
  ·rw[if_pos h4];exact .inl ⟨rfl,by simpa using hle 4 h4⟩
  ·rw[if_neg h4];by_cases h9:n≤9
   ·rw[if_pos h9];exact .inr (.inl ⟨rfl,by simpa using hle 9 h9⟩)
   ·rw[if_neg h9];exact .inr (.inr ⟨rfl,by simpa using hle 18 hn⟩)
 have key:∀(k x:Nat),1≤k→(be k x).getD 0 0=UInt8.ofNat (x/256^(k-1)%256):=fun k x h=>zsc k x 0 (by omega)
 have kb:∀(k x:Nat),1≤k→((be k x).getD 0 0).toNat=x/256^(k-1)%256:=fun k x h=>by rw[key k x h,UInt8.toNat_ofNat'];omega
 unfold rB wB;rw[zsa,WR];cases ng with
 |false=>
  have h0:¬128≤((be (binW n) (val s)).getD 0 0).toNat:=by rcases hbound with⟨hk,hb⟩|⟨hk,hb⟩|⟨hk,hb⟩<;>rw[hk,kb _ _ (by decide)]<;>simp<;>omega
  have h1:val s%256^binW n=val s:=Nat.mod_eq_of_lt (by rcases hbound with⟨hk,hb⟩|⟨hk,hb⟩|⟨hk,hb⟩<;>rw[hk]<;>omega);simp only[Bool.false_eq_true,if_false,decide_eq_false h0,Bool.and_false,h1,hf,decide_eq_true hv]
 |true=>
  obtain⟨rfl,h00⟩:=hsg rfl;have hx:(18446744073709551616-val s)%18446744073709551616=18446744073709551616-val s:=by rcases hbound with⟨hk,hb⟩|⟨hk,hb⟩|⟨hk,hb⟩<;>omega
  have h0:128≤((be (binW n) (18446744073709551616-val s)).getD 0 0).toNat:=by rcases hbound with⟨hk,hb⟩|⟨hk,hb⟩|⟨hk,hb⟩<;>rw[hk,kb _ _ (by decide)]<;>simp<;>omega
  have h1:256^binW n-(18446744073709551616-val s)%256^binW n=val s:=by rcases hbound with⟨hk,hb⟩|⟨hk,hb⟩|⟨hk,hb⟩<;>rw[hk]<;>omega
  simp only[if_true,hx,decide_eq_true h0,Bool.and_self,h1,hf,decide_eq_true hv]
end Go.Proofs.C06
end
