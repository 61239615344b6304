/-
  A part of the proof of the laws on moves.
-/
import Derived.Test.YtpghlpmkljkakaaGreatDoorUg
import Derived.Test.YtpghlpmkljkakaaGreatDoorUa
import Derived.Test.YtpghlpmkljkakaaGreatDoorS5c
set_option maxRecDepth 100000
namespace Go.Proofs.C06
open Go Go.RowKit Go.Vc Go.Am Go.Dg
theorem VL{N:Nat}{i:Nat}{ng:Bool}{s:List UInt8}(hi:i<s.length)(hd:Digs s):Ju N (i:Int) (if ng then Qv else zcy) s=some (s.set i (letC ng (s.getD i 0))):=by
 have h:=yB hd hi;have hl:(if ng then Qv else zcy).length=10:=by cases ng<;>rfl
 unfold Ju;have e:byteAt s (i:Int)-48=(((s.getD i 0).toNat-48:Nat):Int):=by rw[zu];omega
 rw[zF hi,e,jp (by omega) (by omega),zF (by omega)];simp only[za,Bool.true_and];rw[zu,Zq (by omega) (by have:=zad ((if ng then Qv else zcy).getD ((s.getD i 0).toNat-48) 0);omega),za,zae,Int.toNat_natCast];rfl
theorem VM{N:Nat}{i:Nat}{ng:Bool}{s:List UInt8}(hi:i<s.length)(hd:Digs s):Jv N ng (i:Int) s=some (s.set i (letC ng (s.getD i 0))):=by
 unfold Jv;cases ng with
 |true=>exact VL (N:=N) (ng:=true) hi hd
 |false=>exact VL (N:=N) (ng:=false) hi hd
def Vp:List UInt8→List UInt8
 |a::c::r=>UInt8.ofNat ((16*a.toNat+c.toNat)%256)::Vp r
 |_=>[]
theorem zkb:∀h,h.length%2=0→(Vp h).length=h.length/2
 |[],_=>rfl
 |[a],h=>by simp at h
 |a::c::r,h=>by simp only[List.length_cons]at h;rw[Vp,List.length_cons,zkb r (by omega),List.length_cons,List.length_cons];omega
theorem zgY(a c:UInt8):∀h,h.length%2=0→Vp (h++[a,c])=Vp h++[UInt8.ofNat ((16*a.toNat+c.toNat)%256)]
 |[],_=>rfl
 |[x],h=>by simp at h
 |x::y::r,h=>by
  simp only[List.length_cons]at h;show _::Vp (r++[a,c])=_::(Vp r++_)
  rw[zgY a c r (by omega)]
theorem ztB{h:List UInt8}{t:Nat}(ht:t+1<h.length):h.take (t+2)=h.take t++[h.getD t 0,h.getD (t+1) 0]:=by rw[show t+2=t+1+1 by omega,jE ht,jE (by omega),List.append_assoc];rfl
theorem znR{a c:UInt8}:(inKb .u8 (IntKind.wrap .u8 ((IntKind.wrap .u8 (16*((a.toNat:Nat):Int)))+((c.toNat:Nat):Int)))&&true)=true∧
  ([(IntKind.wrap .u8 ((IntKind.wrap .u8 (16*((a.toNat:Nat):Int)))+((c.toNat:Nat):Int)))].map toByte)=[UInt8.ofNat ((16*a.toNat+c.toNat)%256)]:=by
 have e:IntKind.wrap .u8 ((IntKind.wrap .u8 (16*((a.toNat:Nat):Int)))+((c.toNat:Nat):Int))=(((16*a.toNat+c.toNat)%256:Nat):Int):=by rw[WY,WY];omega
 rw[e,Zq (by omega) (by omega)];exact⟨rfl,rfl⟩
theorem VK{N:Nat}{h:List UInt8}(he:h.length%2=0)(hh:h.length≤600):∀(k t:Nat),2*t≤h.length→h.length-2*t<k→
  yz N k (.inr ((2*t:Nat),Vp (h.take (2*t)),h))=some (Vp h)
 |0,t,_,hk=>by omega
 |k+1,t,ht,hk=>by
  show QF N (yz N k) ((2*t:Nat):Int) (Vp (h.take (2*t))) h=_;unfold QF;rw[zb];by_cases c:2*t<h.length
  ·obtain⟨r1,r2⟩:=znR (a:=h.getD (2*t) 0) (c:=h.getD (2*t+1) 0);have hpl:(Vp (h.take (2*t))).length=t:=by rw[zkb _ (by rw[List.length_take];omega),List.length_take];omega
   rw[if_pos (by omega),zF (by omega),show((2*t:Nat):Int)+1=((2*t+1:Nat):Int)by omega,zg (by omega) (by omega),zF (by omega),zu,zu,r1,r2];simp only[za];rw[ym (by rw[List.length_append,hpl];simp;omega),za,show((2*t:Nat):Int)+2=((2*(t+1):Nat):Int)by omega,zg (by omega) (by omega),za,←zgY _ _ _ (by rw[List.length_take];omega),←ztB (by omega)];exact VK he hh k (t+1) (by omega) (by omega)
  ·rw[if_neg (by omega),List.take_of_length_le (by omega)]
theorem ziB{N:Nat}(hN:3000<N){h:List UInt8}(he:h.length%2=0)(h1:1≤h.length)(hh:h.length≤600):yz N N (.inl (0,h))=some (Vp h):=by
 obtain⟨k,rfl⟩:∃k,N=k+1:=⟨N-1,by omega⟩
 show QG (k+1) (yz (k+1) k) ((0:Nat):Int) h=_;unfold QG;obtain⟨r1,r2⟩:=znR (a:=h.getD 0 0) (c:=h.getD 1 0);rw[zb,if_pos (by omega),zF (by omega),show((0:Nat):Int)+1=((1:Nat):Int)by omega,zg (by omega) (by omega),zF (by omega),zu,zu,r1,r2];simp only[za];rw[ym (by simp),za,show((0:Nat):Int)+2=((2*1:Nat):Int)by omega,zg (by omega) (by omega),za];have:=VK (N:=k+1) he hh k 1 (by omega) (by omega);rw[show Vp (h.take (2*1))=([]:List UInt8)++[UInt8.ofNat ((16*(h.getD 0 0).toNat+(h.getD 1 0).toNat)%256)]by
  rw[show 2*1=0+2 by omega,ztB (by omega),List.take_zero];rfl]at this
 exact this
def Vt(s:List UInt8):List UInt8:=s.map fun c=>UInt8.ofNat (c.toNat-48)
theorem QH{N:Nat}(hN:3000<N){s:List UInt8}(hd:Digs s)(hs:s.length≤100){sg:Nat}(hsg:sg<16){z:List UInt8}(hz:z.length≤1)(he:(z.length+s.length)%2=1):∀(k i:Nat),i≤s.length→s.length-i<k→
  ZY N k s (sg:Int) (i:Int) (z++Vt (s.take i))=some (Vp (z++Vt s++[UInt8.ofNat sg]))
 |0,i,_,hk=>by omega
 |k+1,i,hi,hk=>by
  show X5 N (ZY N k) s (sg:Int) (i:Int) (z++Vt (s.take i))=_;unfold X5;have hll:(Vt (s.take i)).length=i:=by unfold Vt;rw[List.length_map,List.length_take];omega
  rw[zb];by_cases c:i<s.length
  ·have h:=yB hd c;have e:byteAt s (i:Int)-48=(((s.getD i 0).toNat-48:Nat):Int):=by rw[zu];omega
   have e2:(z++Vt (s.take i))++[UInt8.ofNat ((s.getD i 0).toNat-48)]=z++Vt (s.take (i+1)):=by rw[jE c,List.append_assoc];unfold Vt;rw[List.map_append];rfl
   rw[if_pos (by omega),zF c,za,e,jp (by omega) (by omega),Zq (by omega) (by omega),Bool.and_self,za];show(chk (zt 1 ((z++Vt (s.take i))++[UInt8.ofNat ((s.getD i 0).toNat-48)]).length)<|chk (inKb .i64 ((i:Int)+1))<|ZY N k s (sg:Int) ((i:Int)+1) ((z++Vt (s.take i))++[UInt8.ofNat ((s.getD i 0).toNat-48)]))=_;rw[ym (by simp;omega),za,zg (by omega) (by omega),za,e2,show(i:Int)+1=((i+1:Nat):Int)by omega];exact QH hN hd hs hsg hz he k (i+1) (by omega) (by omega)
  ·have:i=s.length:=by omega
   subst this;have hll2:(Vt s).length=s.length:=by unfold Vt;rw[List.length_map]
   rw[if_neg (by omega),Zq (by omega) (by omega),Bool.and_self,za,List.take_length];show(chk (zt 1 ((z++Vt s)++[UInt8.ofNat sg]).length)<|yz N N (.inl (0,(z++Vt s)++[UInt8.ofNat sg])))=_;rw[ym (by simp;omega),za,ziB hN (by simp;omega) (by simp;omega) (by simp;omega)]
theorem zid(l:UInt8)(hl:l.toNat<16):∀s,s.length%2=1→Digs s→pk l s=Vp (Vt s++[l])
 |[],h,_=>by simp at h
 |[a],_,hd=>by
  have:=hd a (by simp);show[UInt8.ofNat (16*(a.toNat-48)+l.toNat)]=[UInt8.ofNat ((16*(UInt8.ofNat (a.toNat-48)).toNat+l.toNat)%256)]
  rw[UInt8.toNat_ofNat',Nat.mod_eq_of_lt (show a.toNat-48<2^8 by omega),Nat.mod_eq_of_lt (by omega)]
 |a::c::r,h,hd=>by
  have ha:=hd a (by simp);have hc:=hd c (by simp);have hr:Digs r:=fun x hx=>hd x (by simp[hx])
  simp only[List.length_cons]at h;show UInt8.ofNat (16*(a.toNat-48)+(c.toNat-48))::pk l r=UInt8.ofNat ((16*(UInt8.ofNat (a.toNat-48)).toNat+(UInt8.ofNat (c.toNat-48)).toNat)%256)::Vp (Vt r++[l]);rw[zid l hl r (by omega) hr,UInt8.toNat_ofNat',UInt8.toNat_ofNat',Nat.mod_eq_of_lt (show a.toNat-48<2^8 by omega),Nat.mod_eq_of_lt (show c.toNat-48<2^8 by omega),Nat.mod_eq_of_lt (by omega)]
theorem QI{N:Nat}(hN:3000<N){s:List UInt8}(hd:Digs s)(h1:1≤s.length)(hs:s.length≤100){sg:Nat}(hsg:sg<16):YM N s (sg:Int)=some (pk (UInt8.ofNat sg) (odd s)):=by
 have hsv:(UInt8.ofNat sg).toNat<16:=by rw[UInt8.toNat_ofNat',Nat.mod_eq_of_lt (by omega)];exact hsg
 unfold YM K4;have e0:(ze ((s.length:Int))&&decide (0<2))=true:=by simp[ze]
 rw[e0,za,show decide ((s.length:Int)%2=0)=decide (s.length%2=0)from decide_eq_decide.2 (by omega),zb];by_cases c:s.length%2=0
 ·have ho:odd s=48::s:=by unfold odd;rw[if_pos c]
  rw[if_pos c,ho,zid _ hsv _ (by simp;omega) (Digs.cons.2 ⟨by decide,hd⟩)];have:=QH (N:=N) hN hd hs hsg (z:=[0]) (by simp) (by simp;omega) N 0 (by omega) (by omega);exact this
 ·have ho:odd s=s:=by unfold odd;rw[if_neg c]
  rw[if_neg c,ho,zid _ hsv _ (by omega) hd];have:=QH (N:=N) hN hd hs hsg (z:=[]) (by simp) (by simp;omega) N 0 (by omega) (by omega);exact this
theorem zsb:∀(k v:Nat),be k v=be k (v%256^k)
 |0,_=>rfl
 |k+1,v=>by
  have e1:v%256^(k+1)/256=v/256%256^k:=by rw[Nat.pow_succ,Nat.mul_comm,Nat.mod_mul_right_div_self]
  have e2:v%256^(k+1)%256=v%256:=by rw[Nat.pow_succ,Nat.mul_comm,Nat.mod_mul_right_mod]
  rw[be,be,e1,e2,←zsb k (v/256)]
theorem zlB:∀(t c w:Nat),c<256→w<256^t→be (t+1) (c*256^t+w)=UInt8.ofNat c::be t w
 |0,c,w,hc,hw=>by
  obtain rfl:w=0:=by simpa using hw
  show[UInt8.ofNat ((c*256^0+0)%256)]=[UInt8.ofNat c]
  rw[Nat.pow_zero,Nat.mul_one,Nat.add_zero,Nat.mod_eq_of_lt hc]
 |t+1,c,w,hc,hw=>by
  have e1:(c*256^(t+1)+w)/256=c*256^t+w/256:=by rw[Nat.pow_succ,←Nat.mul_assoc];omega
  have e2:(c*256^(t+1)+w)%256=w%256:=by rw[Nat.pow_succ,←Nat.mul_assoc];omega
  rw[be,e1,e2,zlB t c (w/256) hc (by rw[Nat.pow_succ]at hw;omega)];rfl
theorem zaL{N K:Nat}(hK:K≤8):∀(k t:Nat)(y:Int)(b:List UInt8)(w:Nat),t≤K→K-t<k→b.length=K→w<256^t→b.drop (K-t)=be t w→
  ∃z,YI N k y ((K:Int)-1-(t:Int)) b=some (be K z)∧z<256^K∧∃q:Int,y*((256^t:Nat):Int)+(w:Int)=q*((256^K:Nat):Int)+(z:Int)
 |0,t,_,_,_,_,hk,_,_,_=>by omega
 |k+1,t,y,b,w,ht,hk,hb,hw,hD=>by
  show∃z,X3 N (YI N k) y ((K:Int)-1-(t:Int)) b=some (be K z)∧_;unfold X3;rw[zb];by_cases h:t<K
  ·have e:(K:Int)-1-(t:Int)=((K-1-t:Nat):Int):=by omega
   obtain⟨c,hc⟩:∃c,c=(y%256).toNat:=⟨_,rfl⟩
   have hc2:y%256=(c:Int):=by omega
   have hc3:c<256:=by omega
   have hdr:(b.set (K-1-t) (UInt8.ofNat c)).drop (K-(t+1))=UInt8.ofNat c::b.drop (K-t):=by rw[show K-(t+1)=K-1-t by omega,List.drop_eq_getElem_cons (by rw[List.length_set];omega),List.getElem_set_self,List.drop_set_of_lt (by omega),show K-1-t+1=K-t by omega]
   have hP:=Nat.pow_pos (n:=t) (show 0<256 by decide);have hw2:c*256^t+w<256^(t+1):=by have:=Nat.mul_le_mul_right (256^t) (show c≤255 by omega);rw[Nat.pow_succ];omega
   obtain⟨z,h1,h2,q,h3⟩:=zaL (N:=N) hK k (t+1) (y/256) (b.set (K-1-t) (UInt8.ofNat c)) (c*256^t+w) (by omega) (by omega) (by rw[List.length_set];exact hb) hw2 (by rw[hdr,hD,zlB t c w hc3 hw]);refine⟨z,?_,h2,q,?_⟩
   ·rw[if_pos (by omega),e,hb,zF (by omega),za,zuG,hc2,jp (by omega) (by omega),Zq (by omega) (by omega),Bool.and_self,za,←e,zg (by omega) (by omega),za,e,Int.toNat_natCast,Yt,
     show(2:Int)^(Int.toNat 8)=256 from by decide,show((K-1-t:Nat):Int)-1=(K:Int)-1-((t+1:Nat):Int)by omega]
    exact h1
   ·rw[←h3];have hy:y=256*(y/256)+(c:Int):=by omega
    have hp:((256^(t+1):Nat):Int)=256*((256^t:Nat):Int):=by rw[Nat.pow_succ,Int.natCast_mul,Int.mul_comm];rfl
    rw[hp,Int.natCast_add,Int.natCast_mul];generalize ((256^t:Nat):Int)=P;generalize y/256=u at hy⊢;subst hy;rw[Int.add_mul,Int.mul_comm 256 u,Int.mul_assoc,Int.add_assoc]
  ·obtain rfl:t=K:=by omega
   rw[Nat.sub_self,List.drop_zero]at hD;rw[if_neg (by omega)];exact⟨w,by rw[hD],hw,y,rfl⟩
theorem zme(n:Nat)(sp:Bool):qI n 2 sp=((binW n:Nat):Int):=by
 unfold qI binW;rw[if_neg (by decide),if_pos rfl]
 repeat' split
 all_goals omega
theorem zaO{N:Nat}(hN:3000<N){s:Shape}{n:Nat}(h:NS s n)(hu:s.Usage=2){y:Int}{x:Nat}(hx:y%18446744073709551616=(x:Int)):YL N y s=some (be (binW n) x):=by
 have hw:=binW_or n;unfold YL;rw[zeK N h.dig h.n18,zc,hu,zme];have e2:XO 1 ((binW n:Nat):Int)=true:=by show(Nat.ble (1*binW n) 281474976710656&&Nat.ble (binW n) 9223372036854775807)=true;rw[Nat.ble_eq_true_of_le (by omega),Nat.ble_eq_true_of_le (by omega)];rfl
 rw[e2,decide_eq_true rfl,Bool.and_self,za,Int.toNat_natCast,List.length_replicate,zg (by omega) (by omega),za];obtain⟨z,h1,h2,q,h3⟩:=zaL (N:=N) (K:=binW n) (by omega) N 0 y (List.replicate (binW n) 0) 0 (by omega) (by omega) (by rw[List.length_replicate]) (by decide) (by rw[Nat.sub_zero,List.drop_of_length_le (by rw[List.length_replicate];omega)];rfl);rw[show((binW n:Nat):Int)-1-((0:Nat):Int)=((binW n:Nat):Int)-1 by omega]at h1;rw[h1,zsb (binW n) x];congr 2;rw[Nat.pow_zero]at h3;rcases hw with e|e|e<;>rw[e]at h2 h3⊢
 ·rw[show(256:Nat)^2=65536 by decide]at*;omega
 ·rw[show(256:Nat)^4=4294967296 by decide]at*;omega
 ·rw[show(256:Nat)^8=18446744073709551616 by decide]at*;omega
theorem zaM{N:Nat}(hN:3000<N){s:Shape}{n:Nat}(h:NS s n)(hu:s.Usage=2){l:List UInt8}(hd:Digs l)(hl:l.length=n)(ng:Bool):∀(k i:Nat),i≤n→n-i<k→
  YJ N k ng l ((val (l.take i):Nat):Int) (i:Int) s=some (wB (binW n) ng l)
 |0,i,_,hk=>by omega
 |k+1,i,hi,hk=>by
  have h18:=h.n18;show X4 N (YJ N k) ng l ((val (l.take i):Nat):Int) (i:Int) s=_;unfold X4;rw[zb];have hv:val (l.take i)<10^i:=by have:=js (hd.take i);rwa [List.length_take,Nat.min_eq_left (by omega)]at this
  have h10:(10:Nat)^18=1000000000000000000:=by decide
  by_cases c:i<n
  ·have hg:=yB hd (i:=i) (by omega);have e:byteAt l (i:Int)-48=(((l.getD i 0).toNat-48:Nat):Int):=by rw[zu];omega
   have hp:(10:Nat)^i≤10^17:=Nat.pow_le_pow_right (by decide) (by omega);have h17:(10:Nat)^17=100000000000000000:=by decide
   have ih:=zaM hN h hu hd hl ng k (i+1) (by omega) (by omega);rw[jE (by omega),Z6]at ih;rw[if_pos (by omega),zg (by omega) (by omega),za,zF (by omega),za,e,jp (by omega) (by omega),zg (by omega) (by omega),za,zg (by omega) (by omega),za,zg (by omega) (by omega),za,
    show(10:Int)*((val (l.take i):Nat):Int)+(((l.getD i 0).toNat-48:Nat):Int)=((10*val (l.take i)+((l.getD i 0).toNat-48):Nat):Int)by omega,show(i:Int)+1=((i+1:Nat):Int)by omega]
   exact ih
  ·obtain rfl:i=n:=by omega
   have hp:(10:Nat)^i≤10^18:=Nat.pow_le_pow_right (by decide) h18;rw[if_neg (by omega),List.take_of_length_le (by omega)]at*
   unfold wB;cases ng with
   |true=>rw[cond_true,zg (by omega) (by omega),za,if_pos rfl];exact zaO hN h hu (by omega)
   |false=>rw[cond_false,if_neg (by decide)];exact zaO hN h hu (by omega)
theorem QJ{N:Nat}(hN:3000<N){s:Shape}{n:Nat}(h:NS s n){l:List UInt8}(hd:Digs l)(hl:l.length=n){ng:Bool}(hng:ng=true→s.Signed=true):ZZ N ng l s=some (wr s n ng l):=by
 have h18:=h.n18;have h1:=h.n1;unfold ZZ wr;rcases h.use with u|u|u
 ·rw[u,show decide ((0:Int)=1)=false by decide,show decide ((0:Int)=2)=false by decide,cond_false,cond_false];cases hsp:s.Separate with
  |true=>rw[cond_true,if_pos rfl];unfold QK wS;rw[show([45]:List Int).map toByte=[45]from rfl,show([43]:List Int).map toByte=[43]from rfl,ym (by simp;omega),ym (by simp;omega),ym (by simp;omega),ym (by simp;omega)];cases ng<;>cases s.Leading<;>rfl
  |false=>
   rw[cond_false,if_neg (by decide),if_pos rfl];unfold wZ sgnAt;cases hS:s.Signed with
   |false=>rfl
   |true=>
    rw[cond_true,if_pos rfl,zg (by omega) (by omega),za];cases s.Leading with
    |true=>exact VM (i:=0) (by omega) hd
    |false=>rw[cond_false,show(l.length:Int)-1=((n-1:Nat):Int)by omega];exact VM (i:=n-1) (by omega) hd
 ·have hsp:s.Separate=false:=by
   cases hp:s.Separate with
   |false=>rfl
   |true=>have:=(h.sep (.inr hp)).1;omega
  rw[u,hsp,decide_eq_true rfl,cond_true,if_neg (by decide),if_neg (by decide),if_pos rfl];unfold K5 wP;have k12:=QI hN hd (by omega) (by omega) (sg:=12) (by decide);have k13:=QI hN hd (by omega) (by omega) (sg:=13) (by decide);have k15:=QI hN hd (by omega) (by omega) (sg:=15) (by decide);cases ng with
  |true=>rw[hng rfl];exact k13
  |false=>
   cases s.Signed with
   |true=>exact k12
   |false=>exact k15
 ·have hsp:s.Separate=false:=by
   cases hp:s.Separate with
   |false=>rfl
   |true=>have:=(h.sep (.inr hp)).1;omega
  rw[u,hsp,show decide ((2:Int)=1)=false by decide,decide_eq_true rfl,cond_false,cond_true,if_neg (by decide),if_neg (by decide),if_neg (by decide)];have:=zaM hN h u hd hl ng N 0 (by omega) (by omega);rw[List.take_zero]at this;exact this
theorem zaN{N:Nat}(hN:3000<N){s:Shape}{n:Nat}(h:NS s n){l:List UInt8}(hd:Digs l)(hl:l.length=n)(neg:Bool):∀(k i:Nat),i≤n→n-i<k→
  YK N k neg l (decide (val (l.take i)=0)) (i:Int) s=some (wr s n (neg&&(s.Signed&&decide (val l≠0))) l)
 |0,i,_,hk=>by omega
 |k+1,i,hi,hk=>by
  have h18:=h.n18;show X6 N (YK N k) neg l (decide (val (l.take i)=0)) (i:Int) s=_;unfold X6;rw[zb];by_cases c:i<n
  ·have hg:=yB hd (i:=i) (by omega);have ih:=zaN hN h hd hl neg k (i+1) (by omega) (by omega);rw[jE (by omega),Z6]at ih;rw[if_pos (by omega),zF (by omega),za,zg (by omega) (by omega),za,za,zu,show(i:Int)+1=((i+1:Nat):Int)by omega,zb];by_cases z:val (l.take i)=0
   ·rw[if_pos z,show decide ((((l.getD i 0).toNat:Nat):Int)=48)=decide (10*val (l.take i)+((l.getD i 0).toNat-48)=0)from decide_eq_decide.2 (by omega)];exact ih
   ·rw[if_neg z,show false=decide (10*val (l.take i)+((l.getD i 0).toNat-48)=0)from(decide_eq_false (by omega)).symm];exact ih
  ·obtain rfl:i=n:=by omega
   rw[if_neg (by omega),List.take_of_length_le (by omega)];have hz:(!decide (val l=0))=decide (val l≠0):=by by_cases z:val l=0<;>simp[z]
   rw[hz];cases neg with
   |false=>exact QJ hN h hd hl (fun e=>by cases e)
   |true=>
    cases hS:s.Signed with
    |false=>exact QJ hN h hd hl (fun e=>by cases e)
    |true=>rw[cond_true,cond_true,Bool.true_and,Bool.true_and];exact QJ hN h hd hl (fun _=>hS)
theorem zpn{N:Nat}(hN:3000<N){s:Shape}{n:Nat}(h:NS s n){l:List UInt8}(hd:Digs l)(hl:l.length=n)(neg:Bool):ziC N neg l s=some (wr s n (neg&&(s.Signed&&decide (val l≠0))) l):=by have h18:=h.n18;unfold ziC;exact zaN hN h hd hl neg N 0 (by omega) (by omega)
end Go.Proofs.C06
