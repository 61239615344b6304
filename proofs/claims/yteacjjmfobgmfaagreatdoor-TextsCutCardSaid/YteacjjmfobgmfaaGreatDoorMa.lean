/-
  A part of the proof of the laws.
-/
import Derived.Test.YteacjjmfobgmfaaGreatDoorCi
section
set_option maxRecDepth 100000
namespace Go.Proofs.C06
open Go Go.RowKit Go.Vc Go.Am
theorem y7{n:Int}(h1: -9223372036854775808≤n)(h2:n≤9223372036854775807):zw .i64 n=true:=JE.2 ⟨h1,h2⟩
theorem ztB{x c:UInt8}(h:x≠c):Nat.beq x.toNat c.toNat=false:=by
 cases hb:Nat.beq x.toNat c.toNat with
 |false=>rfl
 |true=>exact absurd (UInt8.toNat_inj.1 (Nat.eq_of_beq_eq_true hb)) h
theorem zfR(c:UInt8):∀(p r:List UInt8)(n:Int),(∀x∈p,x≠c)→KL (p++c::r) c n=n+(p.length:Int)
 |[],r,n,_=>by show cond (Nat.beq c.toNat c.toNat) n _=_;rw[Nat.beq_refl,cond_true];simp
 |x::p,r,n,h=>by show cond (Nat.beq x.toNat c.toNat) n (KL (p++c::r) c (n+1))=_;rw[ztB (h x (by simp)),cond_false,zfR c p r (n+1) (fun y hy=>h y (by simp[hy])),List.length_cons];omega
theorem zcK(c:UInt8):∀(p:List UInt8)(n:Int),(∀x∈p,x≠c)→KL p c n= -1
 |[],_,_=>rfl
 |x::p,n,h=>by show cond (Nat.beq x.toNat c.toNat) n (KL p c (n+1))=_;rw[ztB (h x (by simp)),cond_false,zcK c p (n+1) (fun y hy=>h y (by simp[hy]))]
def J:List (List UInt8)→List UInt8
 |[]=>[]
 |[p]=>p
 |p::q::r=>p++59::J (q::r)
def Zn(p d:List UInt8):AV:=.agg [.rob true p,.rob true d]
def qH:List (List UInt8)→List AV
 |[]=>[]
 |[p]=>[Zn p []]
 |p::q::r=>Zn p [59]::qH (q::r)
def K2:List (List UInt8)→Prop
 |[]=>False
 |[p]=>p≠[]
 |_::q::r=>K2 (q::r)
abbrev DL:List AV:=[.rob false [59]]
abbrev AL:List AV:=[.bool false]
theorem Y7(T:List UInt8)(a b:Nat):Vc.sub T (a:Int) (b:Int)=(T.drop a).take (b-a):=by unfold Vc.sub;rw[Int.toNat_natCast,Int.toNat_natCast,List.drop_take]
theorem Zq(T:List UInt8)(a:Nat):Vc.sub T (a:Int) (T.length:Int)=T.drop a:=by rw[Y7,List.take_of_length_le (by rw[List.length_drop];omega)]
section
variable {N : Nat} (hN : 2 ≤ N) {T : List UInt8} (hT : T.length ≤ 1000) {i : Nat}
include hN hT
theorem zjb{p r:List UInt8}(h:T.drop i=p++59::r)(hp:∀x∈p,x≠59):Yk N T (i:Int) DL=some (((i+p.length:Nat):Int),0):=by
 obtain⟨k,rfl⟩:∃k,N=k+2:=⟨N-2,by omega⟩
 have hl:i+p.length<T.length:=by have:=congrArg List.length h;rw[List.length_drop,List.length_append,List.length_cons]at this;omega
 unfold Yk;show jb (k+2) (jZ (k+2) (k+1)) T (i:Int) (T.length:Int) (-1) DL 1 0=_;unfold jb;rw[show decide ((0:Int)<1)=true from rfl,cond_true,show(zU 0 DL.length&&zG (atV DL 0))=true from rfl,zb,zm.2 ⟨by omega,by omega,by omega⟩,zb,Zq,h,show bytesOf (atV DL 0)=[59]from rfl];show bnd (chk (!zA (p++59::r)) (some (KL (p++59::r) 59 0))) _=_;rw[show(!zA (p++59::r))=true by cases p<;>rfl,zb,zH,zfR _ _ _ _ hp,Int.zero_add,show decide ((0:Int)<(([59]:List UInt8).length:Int))=true from rfl,cond_true,
  decide_eq_true (show(0:Int)≤(p.length:Int)by omega),cond_true,y7 (by omega) (by omega),zb,decide_eq_true (show(i:Int)+(p.length:Int)<(T.length:Int)by omega),cond_true,zb]
 show jb (k+2) (jZ (k+2) k) T (i:Int) ((i:Int)+(p.length:Int)) 0 DL 1 1=_;unfold jb;rfl
omit hT in
theorem zj0{p:List UInt8}(h:T.drop i=p)(h0:p≠[])(hp:∀x∈p,x≠59):Yk N T (i:Int) DL=some ((T.length:Int),-1):=by
 obtain⟨k,rfl⟩:∃k,N=k+2:=⟨N-2,by omega⟩
 have hl:i<T.length:=by
  have:=congrArg List.length h;have:=List.length_pos_iff.2 h0;rw[List.length_drop]at*
  omega
 unfold Yk;show jb (k+2) (jZ (k+2) (k+1)) T (i:Int) (T.length:Int) (-1) DL 1 0=_;unfold jb;rw[show decide ((0:Int)<1)=true from rfl,cond_true,show(zU 0 DL.length&&zG (atV DL 0))=true from rfl,zb,zm.2 ⟨by omega,by omega,by omega⟩,zb,Zq,h,show bytesOf (atV DL 0)=[59]from rfl];show bnd (chk (!zA p) (some (KL p 59 0))) _=_;rw[show(!zA p)=true by cases p with
  |nil=>exact absurd rfl h0
  |cons _ _=>rfl,zb,zH,zcK _ _ _ hp,show decide ((0:Int)<(([59]:List UInt8).length:Int))=true from rfl,cond_true]
 show jb (k+2) (jZ (k+2) k) T (i:Int) (T.length:Int) (-1) DL 1 1=_;unfold jb;rfl
theorem zjY{p r:List UInt8}(h:T.drop i=p++59::r)(hp:∀x∈p,x≠59):zaJ N T (i:Int) DL AL=some ⟨p,[59],((i+(p.length+1):Nat):Int)⟩:=by
 have hl:i+p.length<T.length:=by have:=congrArg List.length h;rw[List.length_drop,List.length_append,List.length_cons]at this;omega
 unfold zaJ;rw[zjb hN hT h hp,zH];obtain⟨k,rfl⟩:∃k,N=k+1:=⟨N-1,by omega⟩
 dsimp only;rw[zm.2 ⟨by omega,by omega,by omega⟩,zb,show decide ((0:Int)≤0)=true from rfl,cond_true,show(zU 0 DL.length&&zG (atV DL 0))=true from rfl,zb,zb,show bytesOf (atV DL 0)=[59]from rfl,y7 (by simp;omega) (by simp;omega),zb,
  Y7,h,Nat.add_sub_cancel_left,List.take_left]
 rfl
omit hT in
theorem zom{p:List UInt8}(h:T.drop i=p)(h0:p≠[])(hp:∀x∈p,x≠59):zaJ N T (i:Int) DL AL=some ⟨p,[],(T.length:Int)⟩:=by
 have hl:i<T.length:=by
  have:=congrArg List.length h;have:=List.length_pos_iff.2 h0;rw[List.length_drop]at*
  omega
 unfold zaJ;rw[zj0 hN h h0 hp,zH];dsimp only;rw[zm.2 ⟨by omega,by omega,by omega⟩,zb,show decide ((0:Int)≤ -1)=false from rfl,cond_false,Zq,h]
end
theorem qN{N:Nat}{s:List UInt8}(h:s.length≤1000):zgt N s=some s:=by unfold zgt Y5;rw[show Nat.ble s.length 1000000000000=true from Nat.ble_eq_true_of_le (by omega),zb,zH];unfold zs6;have e:Vc.sub s 0 (s.length:Int)=s:=Zq s 0;rw[zm.2 ⟨by omega,by omega,by omega⟩,decide_eq_true rfl,e];rfl
theorem ziS{n:Nat}(h:n≤1000):jA 48 n=true:=by unfold jA;simp only[Bool.and_eq_true,Nat.ble_eq];omega
theorem ziR{n:Nat}(h:n≤1000):jA 16 n=true:=by unfold jA;simp only[Bool.and_eq_true,Nat.ble_eq];omega
theorem KT:∀ps:List (List UInt8),(qH ps).length=ps.length
 |[]=>rfl
 |[_]=>rfl
 |_::q::r=>by show(qH (q::r)).length+1=_;rw[KT (q::r)];rfl
theorem zcX:∀(ps:List (List UInt8))(i:Nat)(h:i<ps.length),(qH ps)[i]? =some (Zn ps[i] (if i+1<ps.length then[59]else[]))
 |[],i,h=>by cases h
 |[p],i,h=>by
  have:i=0:=by simpa using h
  subst this;rfl
 |p::q::r,0,h=>by rw[if_pos (by simp)];rfl
 |p::q::r,i+1,h=>by show(qH (q::r))[i]? =some (Zn ((q::r)[i]'(by simpa using h)) _);rw[zcX (q::r) i (by simpa using h)];simp
theorem zcm{N:Nat}(hN:2≤N){T:List UInt8}(hT:T.length≤1000):∀(ps:List (List UInt8))(k i:Nat)(b:List AV),K2 ps→(∀p∈ps,∀x∈p,x≠(59:UInt8))→T.drop i=J ps→ps.length<k→b.length+ps.length≤1000→
  jk N k (.inr (T,DL,AL,(i:Int),b))=some (b++qH ps,0)
 |[],_,_,_,h,_,_,_,_=>h.elim
 |_,0,_,_,_,_,_,hk,_=>by omega
 |[p],k+1,i,b,h0,hp,h,hk,hb=>by
  show zP N (jk N k) T DL AL (i:Int) b=_;have h:T.drop i=p:=h;have h0:p≠[]:=h0;have hl:i<T.length:=by
   have:=congrArg List.length h;have:=List.length_pos_iff.2 h0;rw[List.length_drop]at*
   omega
  have hpl:p.length≤1000:=by have:=congrArg List.length h;rw[List.length_drop]at this;omega
  unfold zP;simp only[List.length_singleton]at hk hb;rw[decide_eq_true (show(i:Int)<(T.length:Int)by omega),cond_true,zom hN h h0 (hp p (by simp)),zH];dsimp only;rw[qN hpl,zH,qN (by simp),zH,ziS (by simp;omega),zb];obtain⟨k,rfl⟩:∃m,k=m+1:=⟨k-1,by omega⟩
  show zP N (jk N k) T DL AL (T.length:Int) (b++[Zn p []])=_;unfold zP;rw[decide_eq_false (by omega),cond_false,zm.2 ⟨by omega,by omega,by omega⟩,decide_eq_true rfl];have e:∀l:List AV,subL l 0 (0+((l.length:Int)-0))=l:=fun l=>by rw[show(0:Int)+((l.length:Int)-0)=(l.length:Int)by omega];unfold Am.subL;rw[Int.toNat_natCast,List.take_length];rfl
  rw[e];rfl
 |p::q::r,k+1,i,b,h0,hp,h,hk,hb=>by
  show zP N (jk N k) T DL AL (i:Int) b=_;have h:T.drop i=p++59::J (q::r):=h;have hl:i+p.length<T.length:=by have:=congrArg List.length h;rw[List.length_drop,List.length_append,List.length_cons]at this;omega
  simp only[List.length_cons]at hk hb;unfold zP;rw[decide_eq_true (show(i:Int)<(T.length:Int)by omega),cond_true,zjY hN hT h (hp p (by simp)),zH];dsimp only;rw[qN (by omega),zH,qN (by simp),zH,ziS (by simp;omega),zb];have hd:T.drop (i+(p.length+1))=J (q::r):=by rw[←List.drop_drop,h];simp
  have:=zcm hN hT (q::r) k (i+(p.length+1)) (b++[Zn p [59]]) h0 (fun x hx=>hp x (by simp[List.mem_cons.1 hx])) hd (by simp;omega) (by simp;omega);rw[List.append_assoc]at this;exact this
theorem zon{N:Nat}(hN:1000<N){ps:List (List UInt8)}(h0:K2 ps)(hp:∀p∈ps,∀x∈p,x≠(59:UInt8))(hT:(J ps).length≤1000)(hn:ps.length≤100)(hJ:0<(J ps).length):YB N (J ps) DL AL=some (qH ps,0):=by
 obtain⟨k,hk⟩:∃m,N=m+1:=⟨N-1,by omega⟩
 unfold YB;rw[show(!decide ((AL.length:Int)=(DL.length:Int)))=false from rfl,cond_false];have step:∀n,n=k+1→jk N n (.inl (J ps,DL,AL,0))=jk N n (.inr (J ps,DL,AL,((0:Nat):Int),[])):=by rintro n rfl;show qp N (jk N k) (J ps) DL AL 0=zP N (jk N k) (J ps) DL AL 0 [];unfold qp zP;rw[decide_eq_true (show(0:Int)<((J ps).length:Int)by omega),cond_true,cond_true]
 rw[step N hk,zcm (by omega) hT ps N 0 [] h0 hp rfl (by omega) (by simp;omega)];rfl
def yI(x:UInt8):UInt8:=UInt8.ofNat (65+x.toNat%4)
def letS(b:List UInt8):List UInt8:=(b.take 10).map yI
theorem zep(x:UInt8):zw .u8 (IntKind.wrap .u8 (65+((x.toNat:Int)%4)))=true∧[(IntKind.wrap .u8 (65+((x.toNat:Int)%4)))].map toByte=[yI x]∧yI x≠59:=by
 unfold yI;have e:(x.toNat:Int)%4=((x.toNat%4:Nat):Int):=by omega
 have:x.toNat%4=0∨x.toNat%4=1∨x.toNat%4=2∨x.toNat%4=3:=by omega
 rw[e];rcases this with h|h|h|h<;>rw[h]<;>exact⟨rfl,rfl,by decide⟩
theorem Yt{N:Nat}{b:List UInt8}:∀(k i:Nat),i≤10→i≤b.length→10-i<k→jv N k b 10 ((b.take i).map yI) (i:Int)=some (letS b)
 |0,_,_,_,h=>by omega
 |k+1,i,h1,h2,hk=>by
  show yh N (jv N k) b 10 ((b.take i).map yI) (i:Int)=_;unfold yh;by_cases hb:i<b.length
  ·rw[decide_eq_true (show(i:Int)<(b.length:Int)by omega),cond_true];by_cases h10:i<10
   ·have eb:jT b (i:Int)=((b[i]).toNat:Int):=by unfold jT;rw[Int.toNat_natCast,List.getD_eq_getElem?_getD,List.getElem?_eq_getElem hb];rfl
    obtain⟨a1,a2,_⟩:=zep b[i];rw[decide_eq_true (show(i:Int)<10 by omega),cond_true,zn.2 ⟨by omega,by omega⟩,zb,eb,show Za ((b[i]).toNat:Int)=true from decide_eq_true (by omega),a1,a2];show chk (y9 ((b.take i).map yI) [yI b[i]]) (chk (zw .i64 ((i:Int)+1)) (jv N k b 10 ((b.take i).map yI++[yI b[i]]) ((i+1:Nat):Int)))=_;rw[qm.2 (by simp;omega),zb,y7 (by omega) (by omega),zb];have e:(b.take i).map yI++[yI b[i]]=(b.take (i+1)).map yI:=by rw[List.take_succ_eq_append_getElem hb,List.map_append];rfl
    rw[e];exact Yt k (i+1) (by omega) (by omega) (by omega)
   ·obtain rfl:i=10:=by omega
    rw[show decide (((10:Nat):Int)<10)=false from rfl,cond_false];rfl
  ·rw[decide_eq_false (show¬(i:Int)<(b.length:Int)by omega),cond_false];unfold letS;rw[List.take_of_length_le (by omega),List.take_of_length_le (by omega)]
theorem Vd{N:Nat}(hN:20<N)(b:List UInt8):yT N b 10=some (letS b):=Yt N 0 (by omega) (by omega) (by omega)
theorem znu(b:List UInt8):(letS b).length≤10:=by unfold letS;simp;omega
theorem zrz(b:List UInt8):∀x∈letS b,x≠59:=fun x hx=>by obtain⟨y,_,rfl⟩:=List.mem_map.1 hx;exact (zep y).2.2
def part(l:List AV)(i:Nat):List UInt8:=if i+1=l.length∧letS (bytesOf (atV l (i:Int)))=[]then[65]else letS (bytesOf (atV l (i:Int)))
def Q(l:List AV)(i:Nat):List (List UInt8):=(List.range i).map (part l)
theorem zbe(l:List AV)(i:Nat):(part l i).length≤10:=by
 unfold part;split
 ·simp
 ·exact znu _
theorem zrr(l:List AV)(i:Nat):∀x∈part l i,x≠59:=by
 unfold part;split
 ·intro x hx;rw[List.mem_singleton]at hx;subst hx;decide
 ·exact zrz _
theorem zoh:∀(a:List (List UInt8))(x:List UInt8),a≠[]→J (a++[x])=(J a++[59])++x
 |[],_,h=>absurd rfl h
 |[p],x,_=>by simp[J]
 |p::q::r,x,_=>by have:=zoh (q::r) x (by simp);show p++59::J ((q::r)++[x])=_;rw[this];simp[J]
theorem zse:∀(a:List (List UInt8)),(∀p∈a,p.length≤10)→(J a).length≤11*a.length
 |[],_=>by simp[J]
 |[p],h=>by have:=h p (by simp);simp only[J,List.length_singleton];omega
 |p::q::r,h=>by have h1:=h p (by simp);have h2:=zse (q::r) (fun x hx=>h x (by simp[List.mem_cons.1 hx]));show(p++59::J (q::r)).length≤_;rw[List.length_append,List.length_cons];simp only[List.length_cons]at h2⊢;omega
theorem zhK(l:List AV)(i:Nat):Q l (i+1)=Q l i++[part l i]:=by unfold Q;rw[List.range_succ,List.map_append];rfl
theorem zi6(l:List AV)(i:Nat):(Q l i).length=i:=by simp[Q]
theorem zsd{l:List AV}{i:Nat}{p:List UInt8}(h:p∈Q l i):∃j,p=part l j:=by obtain⟨j,_,rfl⟩:=List.mem_map.1 h;exact⟨j,rfl⟩
theorem zoi(l:List AV)(i:Nat):(J (Q l i)).length≤11*i:=by have:=zse (Q l i) (fun p hp=>by obtain⟨j,rfl⟩:=zsd hp;exact zbe l j);rwa [zi6]at this
theorem Vo:∀(a:List (List UInt8))(x:List UInt8),x≠[]→K2 (a++[x])
 |[],_,h=>h
 |[_],_,h=>h
 |_::q::r,x,h=>Vo (q::r) x h
theorem zjm{l:List AV}{i:Nat}(h:i+1=l.length):part l i≠[]:=by
 unfold part;split
 ·simp
 ·rename_i hn;exact fun e=>hn ⟨h,e⟩
theorem ztE:∀(a:List (List UInt8)),K2 a→0<(J a).length
 |[],h=>h.elim
 |[p],h=>List.length_pos_iff.2 h
 |p::q::r,_=>by show 0<(p++59::J (q::r)).length;rw[List.length_append,List.length_cons];omega
theorem znG{N:Nat}{ps:List (List UInt8)}(hn:ps.length≤100):∀(k i:Nat),i≤ps.length→ps.length-i<k→jN N k (.inr (qH ps,(i:Int),ps))=some true
 |0,_,_,h=>by omega
 |k+1,i,hi,hk=>by
  show y6 N (jN N k) (qH ps) (i:Int) ps=_;unfold y6;rw[KT];by_cases h:i<ps.length
  ·have hg:atV (qH ps) (i:Int)=Zn ps[i] (if i+1<ps.length then[59]else[]):=by unfold atV;rw[Int.toNat_natCast,List.getD_eq_getElem?_getD,zcX ps i h];rfl
   have hs:atS ps (i:Int)=ps[i]:=by unfold atS;rw[Int.toNat_natCast,List.getD_eq_getElem?_getD,List.getElem?_eq_getElem h];rfl
   have e1:∀p d:List UInt8,(YK (Zn p d) 2&&(zG (zx (Zn p d) 0)&&(zG (zx (Zn p d) 1)&&true)))=true:=fun _ _=>rfl
   have e2:∀p d:List UInt8,bytesOf (zx (Zn p d) 0)=p:=fun _ _=>rfl
   have e3:∀p d:List UInt8,bytesOf (zx (Zn p d) 1)=d:=fun _ _=>rfl
   rw[decide_eq_true (show(i:Int)<(ps.length:Int)by omega),cond_true,zn.2 ⟨by omega,by omega⟩,hg,e1,e2,e3,hs,y7 (by omega) (by omega)];simp only[Bool.and_self,zb,decide_true,Bool.not_true,cond_false];have e4:decide ((0:Int)<((if i+1<ps.length then([59]:List UInt8)else[]).length:Int))=decide ((i:Int)+1<(ps.length:Int)):=by
    split
    ·rw[decide_eq_true (show(i:Int)+1<(ps.length:Int)by omega)];rfl
    ·rw[decide_eq_false (show¬(i:Int)+1<(ps.length:Int)by omega)];rfl
   rw[e4,decide_eq_true rfl,Bool.not_true,cond_false];exact znG hn k (i+1) (by omega) (by omega)
  ·rw[decide_eq_false (show¬(i:Int)<(ps.length:Int)by omega),cond_false]
theorem zrC{N:Nat}(hN:1000<N){l:List AV}{m:Nat}(hm:l.length=m+1)(h10:l.length≤10):yx N (J (Q l l.length)) (Q l l.length)=some true:=by
 have hL:K2 (Q l l.length):=by rw[hm,zhK];exact Vo _ _ (zjm (by omega))
 have hJ:=zoi l l.length;have hq:=zi6 l l.length;unfold yx;have hc:=zon hN hL (fun p hp=>by obtain⟨j,rfl⟩:=zsd hp;exact zrr l j) (by omega) (by omega) (ztE _ hL);have hc:YB N (J (Q l l.length)) ([.rob false ([59].map toByte)]:List AV) ([.bool false]:List AV)=some (qH (Q l l.length),0):=hc;rw[hc,zH];simp only[decide_true,Bool.not_true,cond_false,KT];exact znG (by omega) N 0 (by omega) (by omega)
section
variable {N : Nat} (hN : 1000 < N) {l : List AV} (hl : ∀ v ∈ l, ∃ b, v = .rob false b) {m : Nat} (hm : l.length = m + 1) (h10 : l.length ≤ 10)
include hN hl hm h10
theorem znE:∀(k i:Nat),1≤i→i≤l.length→l.length-i<k→zT N k (.inr (l,J (Q l i),(i:Int),Q l i))=some true
 |0,_,_,_,h=>by omega
 |k+1,i,h1,hi,hk=>by
  show yY N (zT N k) l (J (Q l i)) (i:Int) (Q l i)=_;unfold yY;by_cases h:i<l.length
  ·obtain⟨b,hb⟩:=hl l[i] (List.getElem_mem h);have hg:atV l (i:Int)=.rob false b:=by unfold atV;rw[Int.toNat_natCast,List.getD_eq_getElem?_getD,List.getElem?_eq_getElem h,hb];rfl
   have hp:part l i=if i+1=l.length∧letS b=[]then[65]else letS b:=by unfold part;rw[hg];rfl
   have hJ:=zoi l i;have hpl:=zbe l i;have key:jG N (zT N k) l (J (Q l i)) (i:Int) (part l i) (Q l i)=some true:=by
    unfold jG;rw[ziR (by rw[List.length_append,zi6];simp;omega),zb,decide_eq_true (show(0:Int)<(i:Int)by omega),cond_true,qm.2 (by simp;omega),zb,qm.2 (by simp;omega),zb,y7 (by omega) (by omega),zb,
     ←zhK,←zoh _ _ (fun e=>by have:=zi6 l i;rw[e]at this;simp at this;omega),←zhK]
    exact znE k (i+1) (by omega) (by omega) (by omega)
   rw[decide_eq_true (show(i:Int)<(l.length:Int)by omega),cond_true,hg,zn.2 ⟨by omega,by omega⟩,show bytesOf (.rob false b)=b from rfl,Vd (by omega),zH,y7 (by omega) (by omega),zb];show cond (decide ((i:Int)=(l.length:Int)-1)) _ _=_;by_cases e1:i+1=l.length
   ·rw[decide_eq_true (show(i:Int)=(l.length:Int)-1 by omega),cond_true];by_cases e2:letS b=[]
    ·rw[decide_eq_true e2,cond_true];rw[hp,if_pos ⟨e1,e2⟩]at key;exact key
    ·rw[decide_eq_false e2,cond_false];rw[hp,if_neg (fun e=>e2 e.2)]at key;exact key
   ·rw[decide_eq_false (show¬(i:Int)=(l.length:Int)-1 by omega),cond_false];rw[hp,if_neg (fun e=>e1 e.1)]at key;exact key
  ·obtain rfl:i=l.length:=by omega
   rw[decide_eq_false (show¬(l.length:Int)<(l.length:Int)by omega),cond_false];exact zrC hN hm h10
theorem znF(k:Nat)(hk:l.length≤k):zT N (k+1) (.inl (l,[],0))=some true:=by
 show yZ N (zT N k) l [] ((0:Nat):Int)=_;unfold yZ;have h:0<l.length:=by omega
 obtain⟨b,hb⟩:=hl l[0] (List.getElem_mem h);have hg:atV l ((0:Nat):Int)=.rob false b:=by unfold atV;rw[Int.toNat_natCast,List.getD_eq_getElem?_getD,List.getElem?_eq_getElem h,hb];rfl
 have hp:part l 0=if 0+1=l.length∧letS b=[]then[65]else letS b:=by unfold part;rw[hg];rfl
 have hpl:=zbe l 0;have key:ya N (zT N k) l [] ((0:Nat):Int) (part l 0)=some true:=by unfold ya;rw[ziR (by simp),zb,show decide ((0:Int)<((0:Nat):Int))=false from rfl,cond_false,qm.2 (by simp;omega),zb,show zw .i64 (((0:Nat):Int)+1)=true from rfl,zb];exact znE hN hl hm h10 k 1 (by omega) (by omega) (by omega)
 rw[decide_eq_true (show((0:Nat):Int)<(l.length:Int)by omega),cond_true,hg,zn.2 ⟨by omega,by omega⟩,show bytesOf (.rob false b)=b from rfl,Vd (by omega),zH,y7 (by omega) (by omega),zb];show cond (decide (((0:Nat):Int)=(l.length:Int)-1)) _ _=_;by_cases e1:0+1=l.length
 ·rw[decide_eq_true (show((0:Nat):Int)=(l.length:Int)-1 by omega),cond_true];by_cases e2:letS b=[]
  ·rw[decide_eq_true e2,cond_true];rw[hp,if_pos ⟨e1,e2⟩]at key;exact key
  ·rw[decide_eq_false e2,cond_false];rw[hp,if_neg (fun e=>e2 e.2)]at key;exact key
 ·rw[decide_eq_false (show¬((0:Nat):Int)=(l.length:Int)-1 by omega),cond_false];rw[hp,if_neg (fun e=>e1 e.1)]at key;exact key
end
theorem zbn(l:List AV)(hl:∀v∈l,∃b,v=.rob false b):∃N,yb N l=some true:=by
 refine⟨2000,?_⟩;unfold yb;by_cases h10:10<l.length
 ·rw[decide_eq_true (show(10:Int)<(l.length:Int)by omega),cond_true]
 rw[decide_eq_false (show¬(10:Int)<(l.length:Int)by omega),cond_false];by_cases h0:l.length=0
 ·rw[decide_eq_true (show(l.length:Int)=0 by omega),cond_true]
 rw[decide_eq_false (show¬(l.length:Int)=0 by omega),cond_false];exact znF (N:=2000) (by omega) hl (m:=l.length-1) (by omega) (by omega) 1999 (by omega)
end Go.Proofs.C06
end
section
set_option maxRecDepth 100000
namespace Go.Proofs.C06
open Go Go.RowKit Go.Vc Go.Am
def oc(T d:List UInt8)(e:Nat):Bool:=!zA d&&d.isPrefixOf (T.drop e)
theorem zg1{T d:List UInt8}{e:Nat}:oc T d e=true↔d≠[]∧∃r,T.drop e=d++r:=by
 unfold oc;rw[Bool.and_eq_true,List.isPrefixOf_iff_prefix];have h1:(!zA d)=true↔d≠[]:=by cases d<;>simp[zA]
 rw[h1];exact and_congr Iff.rfl ⟨fun⟨t,h⟩=>⟨t,h.symm⟩,fun⟨t,h⟩=>⟨t,h.symm⟩⟩
theorem yH{T d:List UInt8}{e:Nat}(h:oc T d e=true):e+d.length≤T.length∧e<T.length∧0<d.length:=by obtain⟨h1,r,h2⟩:=zg1.1 h;have:=congrArg List.length h2;have h3:=List.length_pos_iff.2 h1;rw[List.length_drop,List.length_append]at this;omega
theorem zsQ(T:List UInt8)(e:Nat):oc T [] e=false:=rfl
theorem ziJ{T d:List UInt8}{e a b:Nat}(h:oc ((T.drop a).take b) d e=true):oc T d (a+e)=true:=by
 obtain⟨h1,r,h2⟩:=zg1.1 h;refine zg1.2 ⟨h1,?_⟩;have h3:(T.drop (a+e)).take (b-e)=d++r:=by rw[←h2,List.drop_take,List.drop_drop]
 exact⟨r++(T.drop (a+e)).drop (b-e),by rw[←List.append_assoc,←h3,List.take_append_drop]⟩
theorem znl{T d:List UInt8}{e:Nat}(_h:e+d.length≤T.length):decide (Vc.sub T (e:Int) ((e:Int)+(d.length:Int))=d)=d.isPrefixOf (T.drop e):=by
 have e1:Vc.sub T (e:Int) ((e:Int)+(d.length:Int))=(T.drop e).take d.length:=by rw[show(e:Int)+(d.length:Int)=((e+d.length:Nat):Int)by omega,Y7,Nat.add_sub_cancel_left]
 rw[e1];cases hb:d.isPrefixOf (T.drop e)with
 |true=>obtain⟨r,hr⟩:=List.isPrefixOf_iff_prefix.1 hb;rw[←hr];simp
 |false=>
  refine decide_eq_false fun he=>?_
  have:d.isPrefixOf (T.drop e)=true:=List.isPrefixOf_iff_prefix.2 ⟨(T.drop e).drop d.length,by
   conv=>lhs;lhs;rw[←he]
   exact List.take_append_drop _ _⟩
  rw[hb]at this;cases this
theorem zd8{T d:List UInt8}{e:Nat}(h:¬e+d.length≤T.length):oc T d e=false:=by
 cases hb:oc T d e with
 |false=>rfl
 |true=>exact absurd (yH hb).1 h
theorem index_oc{T d:List UInt8}{a:Nat}(hd:d≠[]):(Lib.index (T.drop a) d= -1∧∀e,a≤e→oc T d e=false)∨(∃i:Nat,Lib.index (T.drop a) d=(i:Int)∧oc T d (a+i)=true∧∀e,a≤e→e<a+i→oc T d e=false):=by
 have key:∀j,Lib.occAt (T.drop a) d j=oc T d (a+j):=fun j=>by
  unfold Lib.occAt oc;rw[List.drop_drop,show(!zA d)=true by cases d with
   |nil=>exact absurd rfl hd
   |cons _ _=>rfl,Bool.true_and]
 rcases Lib.index_spec (T.drop a) d with⟨h1,h2⟩|⟨i,h1,_,h3,h4⟩
 ·refine .inl ⟨h1,fun e he=>?_⟩;by_cases hl:e-a≤(T.drop a).length
  ·have:=h2 (e-a) hl;rw[key,show a+(e-a)=e by omega]at this;exact this
  ·rw[List.length_drop]at hl;exact zd8 (by omega)
 ·refine .inr ⟨i,h1,by rw[←key];exact h3,fun e he hei=>?_⟩;have:=h4 (e-a) (by omega);rw[key,show a+(e-a)=e by omega]at this;exact this
theorem zrE{s p:List UInt8}(hs:s≠[])(h1:s.length≤1000)(h2:p.length≤1000):zjy s p=some (Lib.index s p):=by
 have hn:(!zA s)=true:=by cases s with
  |nil=>exact absurd rfl hs
  |cons _ _=>rfl
 match p,h2 with
 |[],_=>rw[Lib.index_empty];rfl
 |[c],_=>show chk (!zA s) (some (KL s c 0))=_;rw[hn,zb,zcJ,Lib.index_one]
 |c::d::r,h2=>
  simp only[zjy];rw[Nat.ble_eq_true_of_le (show(c::d::r).length≤9223372036854775807 by omega)];cases hb:Nat.blt s.length (c::d::r).length with
  |true=>have:=Nat.blt_eq.mp hb;dsimp only;rw[Lib.index_long (by omega) (fun e=>by rw[e]at this;omega)]
  |false=>
   have hlt:¬s.length<(c::d::r).length:=fun hh=>by rw[Nat.blt_eq.mpr hh]at hb;cases hb
   dsimp only;cases hq:Nat.beq s.length (c::d::r).length with
   |true=>
    have hl:=Nat.eq_of_beq_eq_true hq;dsimp only;by_cases he:c::d::r=s
    ·rw[he,Lib.index_self];simp
    ·rw[Lib.index_long (by omega) he,show(c::d::r==s)=false from beq_eq_false_iff_ne.2 he];rfl
   |false=>dsimp only;rw[Nat.blt_eq.mpr (by omega),zb]
def Found(T:List UInt8)(D:List (List UInt8))(a:Nat):Option (Nat×Nat)→Prop
 |none=>∀(e j:Nat)(d:List UInt8),a≤e→D[j]? =some d→oc T d e=false
 |some (p,i)=>a≤p∧(∃d,D[i]? =some d∧oc T d p=true)∧(∀(e j:Nat)(d:List UInt8),a≤e→e<p→D[j]? =some d→oc T d e=false)∧(∀(j:Nat)(d:List UInt8),j<i→D[j]? =some d→oc T d p=false)
theorem Found.snoc{T:List UInt8}{D:List (List UInt8)}{a:Nat}{d:List UInt8}{r:Option (Nat×Nat)}(h:Found T D a r):
  ((∀e,a≤e→(∀p i,r=some (p,i)→e<p)→oc T d e=false)→Found T (D++[d]) a r)∧
  (∀q,a≤q→oc T d q=true→(∀e,a≤e→e<q→oc T d e=false)→(∀p i,r=some (p,i)→q<p)→Found T (D++[d]) a (some (q,D.length))):=by
 have old:∀{j d'},(D++[d])[j]? =some d'→D[j]? =some d'∨(j=D.length∧d'=d):=fun{j d'} hj=>by
  rcases Nat.lt_trichotomy j D.length with hl|hl|hl
  ·rw[List.getElem?_append_left hl]at hj;exact .inl hj
  ·subst hl;rw[List.getElem?_append_right (Nat.le_refl _),Nat.sub_self]at hj;exact .inr ⟨rfl,by simpa using hj.symm⟩
  ·rw[List.getElem?_append_right (by omega),List.getElem?_eq_none (by simp;omega)]at hj;cases hj
 have new:∀{j d'},D[j]? =some d'→(D++[d])[j]? =some d':=fun{j d'} hj=>by rw[List.getElem?_append_left (List.getElem?_eq_some_iff.1 hj).1];exact hj
 refine⟨fun hno=>?_,fun q h1 h2 h3 h4=>?_⟩
 ·cases r with
  |none=>
   intro e j d' he hj;rcases old hj with hj|⟨_,rfl⟩
   ·exact h e j d' he hj
   ·exact hno e he (fun _ _ h=>by cases h)
  |some pi=>
   obtain⟨p,i⟩:=pi;obtain⟨g1,⟨d0,g2,g3⟩,g4,g5⟩:=h;have hi:=(List.getElem?_eq_some_iff.1 g2).1;refine⟨g1,⟨d0,new g2,g3⟩,fun e j d' he hp hj=>?_,fun j d' hj hd=>?_⟩
   ·rcases old hj with hj|⟨_,rfl⟩
    ·exact g4 e j d' he hp hj
    ·exact hno e he (fun _ _ h=>by cases h;exact hp)
   ·rcases old hd with hd|⟨rfl,rfl⟩
    ·exact g5 j d' hj hd
    ·omega
 ·refine⟨h1,⟨d,by rw[List.getElem?_append_right (Nat.le_refl _),Nat.sub_self];rfl,h2⟩,fun e j d' he hq hj=>?_,fun j d' hj hd=>?_⟩
  ·rcases old hj with hj|⟨_,rfl⟩
   ·cases r with
    |none=>exact h e j d' he hj
    |some pi=>exact h.2.2.1 e j d' he (Nat.lt_trans hq (h4 _ _ rfl)) hj
   ·exact h3 e he hq
  ·rcases old hd with hd|⟨rfl,rfl⟩
   ·cases r with
    |none=>exact h q j d' h1 hd
    |some pi=>exact h.2.2.1 q j d' h1 (h4 _ _ rfl) hd
   ·omega
end Go.Proofs.C06
end
section
set_option maxRecDepth 100000
namespace Go.Proofs.C06
open Go Go.RowKit Go.Vc Go.Am
theorem zfT{n:Nat}(h:n≤1000):jA 24 n=true:=by unfold jA;simp only[Bool.and_eq_true,Nat.ble_eq];omega
def dv(D:List (List UInt8)):List AV:=D.map fun d=>.rob false d
def bv(A:List Bool):List AV:=A.map AV.bool
theorem YR(D:List (List UInt8)):(dv D).length=D.length:=by simp[dv]
theorem zbT(A:List Bool):(bv A).length=A.length:=by simp[bv]
theorem zn3{D:List (List UInt8)}{i:Nat}{d:List UInt8}(h:D[i]? =some d):atV (dv D) (i:Int)=.rob false d:=by unfold atV dv;rw[Int.toNat_natCast,List.getD_eq_getElem?_getD,List.getElem?_map,h];rfl
theorem zr9{A:List Bool}{i:Nat}(h:i<A.length):atV (bv A) (i:Int)=.bool (A.getD i false):=by unfold atV bv;rw[Int.toNat_natCast,List.getD_eq_getElem?_getD,List.getElem?_map,List.getD_eq_getElem?_getD,List.getElem?_eq_getElem h];rfl
theorem zjP{D:List (List UInt8)}{i:Nat}{d:List UInt8}(h:D[i]? =some d):atS D (i:Int)=d:=by unfold atS;rw[Int.toNat_natCast,List.getD_eq_getElem?_getD,h];rfl
theorem Zf{D:List (List UInt8)}{i:Nat}{d:List UInt8}(h:D[i]? =some d):i<D.length:=(List.getElem?_eq_some_iff.1 h).1
inductive Rep(T d:List UInt8):Nat→Nat→Prop
 |stop {p:Nat} (h:oc T d p=false):Rep T d p p
 |step {p q:Nat} (h:oc T d p=true) (hr:Rep T d (p+d.length) q):Rep T d p q
theorem Rep.ex(T d:List UInt8):∀(k p:Nat),T.length-p<k→∃q,Rep T d p q
 |0,_,h=>by omega
 |k+1,p,h=>by
  cases ho:oc T d p with
  |false=>exact⟨p,.stop ho⟩
  |true=>obtain⟨h1,h2,h3⟩:=yH ho;obtain⟨q,hq⟩:=Rep.ex T d k (p+d.length) (by omega);exact⟨q,.step ho hq⟩
theorem Rep.le{T d:List UInt8}{p q:Nat}(h:Rep T d p q):p≤q∧(p≤T.length→q≤T.length):=by
 induction h with
 |stop _=>exact⟨Nat.le_refl _,fun h=>h⟩
 |step ho _ ih=>obtain⟨h1,h2,h3⟩:=yH ho;exact⟨by omega,fun _=>ih.2 h1⟩
def RepA(T d:List UInt8)(al:Bool)(p q:Nat):Prop:=cond al (Rep T d p q) (q=p)
theorem RepA.le{T d:List UInt8}{al:Bool}{p q:Nat}(h:RepA T d al p q):p≤q∧(p≤T.length→q≤T.length):=by
 cases al with
 |true=>exact Rep.le h
 |false=>cases(h:q=p);exact⟨Nat.le_refl _,fun h=>h⟩
theorem RepA.ex(T d:List UInt8)(al:Bool)(p:Nat):∃q,RepA T d al p q:=by
 cases al with
 |true=>exact Rep.ex T d (T.length-p+1) p (by omega)
 |false=>exact⟨p,rfl⟩
def ZQ(T:List UInt8):Option (Nat×Nat)→Int×Int
 |none=>((T.length:Int),-1)
 |some (p,i)=>((p:Int),(i:Int))
section
variable {N : Nat} (hN : 1000 < N) {T : List UInt8} (hT : T.length ≤ 1000) {D : List (List UInt8)} (hD : ∀ d ∈ D, d.length ≤ 1000) (hn : D.length ≤ 100)
include hT hD hn
theorem YU{a:Nat}(ha:a<T.length):∀(k:Nat)(D1 D2:List (List UInt8))(r:Option (Nat×Nat)),D=D1++D2→D2.length<k→Found T D1 a r→
  ∃r',Found T D a r'∧jZ N k T (a:Int) (ZQ T r).1 (ZQ T r).2 (dv D) (D.length:Int) (D1.length:Int)=some (ZQ T r')
 |0,_,_,_,_,h,_=>by omega
 |k+1,D1,[],r,he,_,hf=>by rw[List.append_nil]at he;subst he;refine⟨r,hf,?_⟩;show jb N (jZ N k) T (a:Int) (ZQ T r).1 (ZQ T r).2 (dv D) (D.length:Int) (D.length:Int)=_;unfold jb;rw[decide_eq_false (by omega),cond_false]
 |k+1,D1,d::D2,r,he,hk,hf=>by
  have hlen:D.length=D1.length+(D2.length+1):=by rw[he];simp
  have hg:D[D1.length]? =some d:=by rw[he,List.getElem?_append_right (Nat.le_refl _),Nat.sub_self];rfl
  have he':D=(D1++[d])++D2:=by rw[he];simp
  have hd:d.length≤1000:=hD d (List.mem_of_getElem? hg);have e1:((D1.length:Nat):Int)+1=(((D1++[d]).length:Nat):Int):=by simp
  have hne:T.drop a≠[]:=fun h=>by have:=congrArg List.length h;rw[List.length_drop]at this;simp at this;omega
  have hkb:zw .i64 ((D1.length:Int)+1)=true:=y7 (by omega) (by omega);show∃r',Found T D a r'∧jb N (jZ N k) T (a:Int) (ZQ T r).1 (ZQ T r).2 (dv D) (D.length:Int) (D1.length:Int)=_;unfold jb;rw[decide_eq_true (show(D1.length:Int)<(D.length:Int)by omega),cond_true,YR,zn.2 ⟨by omega,by omega⟩,zn3 hg,show zG (.rob false d)=true from rfl,Bool.and_self,zb,zm.2 ⟨by omega,by omega,by omega⟩,zb,
   Zq,show bytesOf (.rob false d)=d from rfl,zrE hne (by rw[List.length_drop];omega) hd,zH,hkb]
  simp only[zb];have keep:Found T (D1++[d]) a r→∃r',Found T D a r'∧jZ N k T (a:Int) (ZQ T r).1 (ZQ T r).2 (dv D) (D.length:Int) ((D1.length:Int)+1)=some (ZQ T r'):=fun h=>by rw[e1];exact YU ha k (D1++[d]) D2 r he' (by simp at hk;omega) h
  by_cases h0:d=[]
  ·subst h0;rw[show decide ((0:Int)<(([]:List UInt8).length:Int))=false from rfl,cond_false];exact keep (hf.snoc.1 fun e _ _=>zsQ T e)
  ·have hl0:=List.length_pos_iff.2 h0;rw[decide_eq_true (show(0:Int)<(d.length:Int)by omega),cond_true];rcases index_oc (T:=T) (a:=a) h0 with⟨h1,h2⟩|⟨i,h1,h2,h3⟩
   ·rw[h1,show decide ((0:Int)≤ -1)=false from rfl,cond_false];exact keep (hf.snoc.1 fun e he _=>h2 e he)
   ·have hi:=(yH h2).2.1;rw[h1,decide_eq_true (show(0:Int)≤(i:Int)by omega),cond_true,y7 (by omega) (by omega),zb];by_cases hp:(a:Int)+(i:Int)<(ZQ T r).1
    ·rw[decide_eq_true hp,cond_true,zb];have hf':=hf.snoc.2 (a+i) (by omega) h2 h3 (fun p j hr=>by subst hr;simp only[ZQ]at hp;omega);have:=YU ha k (D1++[d]) D2 _ he' (by simp at hk;omega) hf';rw[e1,show(a:Int)+(i:Int)=((a+i:Nat):Int)by omega];exact this
    ·rw[decide_eq_false hp,cond_false];refine keep (hf.snoc.1 fun e he hep=>?_);cases r with
     |none=>simp only[ZQ]at hp;omega
     |some pj=>obtain⟨p,j⟩:=pj;have:=hep p j rfl;simp only[ZQ]at hp;exact h3 e he (by omega)
include hN
theorem zty{a:Nat}(ha:a<T.length):∃r,Found T D a r∧Yk N T (a:Int) (dv D)=some (ZQ T r):=by have:=YU (N:=N) hT hD hn ha N [] D none rfl (by omega) (fun e j d _ h=>by simp at h);unfold Yk;rw[YR];exact this
omit hN hT hD hn in
theorem ztT{d:List UInt8}(hd:d.length≤1000)(h0:d≠[]){p:Nat}(hp:p≤T.length):zi2 N (Vc.sub T (p:Int) (T.length:Int)) d=some (oc T d p):=by
 unfold zi2 zhD;rw[Zq,List.length_drop];have ho:oc T d p=d.isPrefixOf (T.drop p):=by
  unfold oc;cases d with
  |nil=>exact absurd rfl h0
  |cons _ _=>rfl
 by_cases hl:d.length≤T.length-p
 ·rw[decide_eq_true (show(d.length:Int)≤((T.length-p:Nat):Int)by omega),cond_true,zm.2 ⟨by omega,by omega,by omega⟩,zb,zH];have:=znl (T:=T.drop p) (d:=d) (e:=0) (by rw[List.length_drop];omega);rw[List.drop_zero]at this;rw[ho,←this];simp
 ·rw[decide_eq_false (show¬(d.length:Int)≤((T.length-p:Nat):Int)by omega),cond_false,zd8 (by omega)]
variable {A : List Bool} (hA : A.length = D.length)
include hA
omit hN hn in
theorem zc0{i:Nat}{d x:List UInt8}(hi:D[i]? =some d)(h0:d≠[])(b0:Int):∀(k p q:Nat),RepA T d (A.getD i false) p q→p≤T.length→T.length-p<k→
  Y6 N k T (dv D) (bv A) (i:Int) b0 ⟨x,d,(p:Int)⟩=some ⟨x,d,(q:Int)⟩
 |0,_,_,_,_,h=>by omega
 |k+1,p,q,hr,hp,hk=>by
  have hil:=Zf hi;have hd:d.length≤1000:=hD d (List.mem_of_getElem? hi);show Ke N (Y6 N k) T (dv D) (bv A) (i:Int) b0 ⟨x,d,(p:Int)⟩=_;unfold Ke;rw[zbT,zn.2 ⟨by omega,by omega⟩,zr9 (by omega)];cases ha:A.getD i false with
  |false=>rw[ha]at hr;cases(hr:q=p);rfl
  |true=>
   rw[ha]at hr;rw[show(true&&zez (.bool true))=true from rfl,zb,show zbU (.bool true)=true from rfl,cond_true];dsimp only;rw[zm.2 ⟨by omega,by omega,by omega⟩,zb,YR,zn.2 ⟨by omega,by omega⟩,zn3 hi,show zG (.rob false d)=true from rfl,Bool.and_self,zb,show bytesOf (.rob false d)=d from rfl,ztT hd h0 hp,zH];cases hr with
   |stop ho=>rw[ho,cond_false]
   |step ho hr=>obtain⟨h1,h2,h3⟩:=yH ho;rw[ho,cond_true,zb,y7 (by omega) (by omega),zb,show(p:Int)+(d.length:Int)=((p+d.length:Nat):Int)by omega];exact zc0 hi h0 b0 k (p+d.length) q (by rw[ha];exact hr) h1 (by omega)
omit hN hT hD hn hA in
theorem zjK{a:Nat}(ha:a<T.length)(h:Yk N T (a:Int) (dv D)=some (ZQ T none)):zaJ N T (a:Int) (dv D) (bv A)=some ⟨T.drop a,[],(T.length:Int)⟩:=by unfold zaJ;rw[h,show ZQ T none=((T.length:Int),-1)from rfl,zH];dsimp only;rw[zm.2 ⟨by omega,by omega,by omega⟩,zb,show decide ((0:Int)≤ -1)=false from rfl,cond_false,Zq]
omit hn in
theorem zjJ{a p i q:Nat}{d:List UInt8}(hap:a≤p)(h:Yk N T (a:Int) (dv D)=some (ZQ T (some (p,i))))(hi:D[i]? =some d)(ho:oc T d p=true)(hr:RepA T d (A.getD i false) (p+d.length) q):
  zaJ N T (a:Int) (dv D) (bv A)=some ⟨(T.drop a).take (p-a),d,(q:Int)⟩:=by
 obtain⟨h1,h2,h3⟩:=yH ho;have hil:=Zf hi;unfold zaJ;rw[h,show ZQ T (some (p,i))=((p:Int),(i:Int))from rfl,zH];dsimp only;rw[zm.2 ⟨by omega,by omega,by omega⟩,zb,decide_eq_true (show(0:Int)≤(i:Int)by omega),cond_true,YR,zn.2 ⟨by omega,by omega⟩,zn3 hi,show zG (.rob false d)=true from rfl,Bool.and_self,zb,zb,
  show bytesOf (.rob false d)=d from rfl,y7 (by omega) (by omega),zb,Y7,show(p:Int)+(d.length:Int)=((p+d.length:Nat):Int)by omega]
 exact zc0 hT hD hA hi (fun e=>by rw[e]at h3;simp at h3) 0 N (p+d.length) q hr h1 (by omega)
omit hN hT hD hn hA in
inductive Cuts(T:List UInt8)(D:List (List UInt8))(A:List Bool):Nat→List (List UInt8×List UInt8)→Prop
 |fin:Cuts T D A T.length []
 |last {a:Nat} (ha:a<T.length) (hf:Found T D a none):Cuts T D A a [(T.drop a,[])]
 |cons {a p i q:Nat} {d:List UInt8} {gs:List (List UInt8×List UInt8)} (ha:a<T.length) (hf:Found T D a (some (p,i))) (hi:D[i]? =some d) (ho:oc T d p=true) (hr:RepA T d (A.getD i false) (p+d.length) q) (hg:Cuts T D A q gs):
  Cuts T D A a (((T.drop a).take (p-a),d)::gs)
def j6(g:List UInt8×List UInt8):AV:=Zn g.1 g.2
theorem zc1:∀(k a:Nat)(b:List AV),a≤T.length→T.length-a<k→b.length+(T.length-a)≤1000→
  ∃gs,Cuts T D A a gs∧jk N k (.inr (T,dv D,bv A,(a:Int),b))=some (b++gs.map j6,0)
 |0,_,_,_,h,_=>by omega
 |k+1,a,b,ha,hk,hb=>by
  have out:∀(k':Nat)(b':List AV),zP N (jk N k') T (dv D) (bv A) (T.length:Int) b'=some (b',0):=fun k' b'=>by
   unfold zP;rw[decide_eq_false (by omega),cond_false,zm.2 ⟨by omega,by omega,by omega⟩,decide_eq_true rfl];have e:subL b' 0 (0+((b'.length:Int)-0))=b':=by rw[show(0:Int)+((b'.length:Int)-0)=(b'.length:Int)by omega];unfold Am.subL;rw[Int.toNat_natCast,List.take_length];rfl
   rw[e];rfl
  show∃gs,Cuts T D A a gs∧zP N (jk N k) T (dv D) (bv A) (a:Int) b=_;by_cases h:a<T.length
  ·obtain⟨r,hf,hr⟩:=zty hN hT hD hn h;cases r with
   |none=>
    refine⟨_,.last h hf,?_⟩;unfold zP;rw[decide_eq_true (show(a:Int)<(T.length:Int)by omega),cond_true,zjK h hr,zH];dsimp only;rw[qN (by rw[List.length_drop];omega),zH,qN (by simp),zH,ziS (by simp;omega),zb];obtain⟨k,rfl⟩:∃m,k=m+1:=⟨k-1,by omega⟩
    exact out k _
   |some pi=>obtain⟨p,i⟩:=pi;obtain⟨g1,⟨d,g2,g3⟩,g4,g5⟩:=hf;obtain⟨h1,h2,h3⟩:=yH g3;have hd:d.length≤1000:=hD d (List.mem_of_getElem? g2);obtain⟨q,hq⟩:=RepA.ex T d (A.getD i false) (p+d.length);obtain⟨q1,q2⟩:=hq.le;have q2:=q2 h1;obtain⟨gs,hc,he⟩:=zc1 k q (b++[j6 ((T.drop a).take (p-a),d)]) q2 (by omega) (by simp;omega);refine⟨_,.cons h ⟨g1,⟨d,g2,g3⟩,g4,g5⟩ g2 g3 hq hc,?_⟩;unfold zP;rw[decide_eq_true (show(a:Int)<(T.length:Int)by omega),cond_true,zjJ hN hT hD hA g1 hr g2 g3 hq,zH];dsimp only;rw[qN (by rw[List.length_take,List.length_drop];omega),zH,qN hd,zH,ziS (by simp;omega),zb];rw[List.append_assoc]at he;exact he
  ·obtain rfl:a=T.length:=by omega
   exact⟨[],.fin,by rw[out];simp⟩
theorem ztz:∃gs,Cuts T D A 0 gs∧YB N T (dv D) (bv A)=some (gs.map j6,0):=by
 obtain⟨k,hk⟩:∃m,N=m+1:=⟨N-1,by omega⟩
 obtain⟨gs,h1,h2⟩:=zc1 hN hT hD hn hA N 0 [] (by omega) (by omega) (by simp;omega);refine⟨gs,h1,?_⟩;unfold YB;rw[zbT,YR,hA,decide_eq_true rfl,Bool.not_true,cond_false];have step:∀n,n=k+1→jk N n (.inl (T,dv D,bv A,0))=jk N n (.inr (T,dv D,bv A,((0:Nat):Int),[])):=by
  rintro n rfl;show qp N (jk N k) T (dv D) (bv A) 0=zP N (jk N k) T (dv D) (bv A) 0 [];unfold qp zP;by_cases h:(0:Int)<(T.length:Int)
  ·rw[decide_eq_true h,cond_true,cond_true]
  ·rw[decide_eq_false h,cond_false,cond_false];rfl
 rw[step N hk,h2,List.nil_append]
omit hN hT hD hn hA in
theorem ZJ{d:List UInt8}(hd:d.length≤1000){e:Nat}(he:e≤1000):J6 N T (e:Int) d=some (oc T d e):=by
 unfold J6;by_cases h0:d=[]
 ·subst h0;rfl
 ·rw[decide_eq_false h0,Bool.not_false,cond_true,y7 (by omega) (by omega),zb];by_cases hl:e+d.length≤T.length
  ·rw[decide_eq_true (show(e:Int)+(d.length:Int)≤(T.length:Int)by omega),cond_true,zb,zm.2 ⟨by omega,by omega,by omega⟩,zb,znl hl];unfold oc;cases d with
   |nil=>exact absurd rfl h0
   |cons _ _=>rfl
  ·rw[decide_eq_false (show¬(e:Int)+(d.length:Int)≤(T.length:Int)by omega),cond_false,zd8 hl]
omit hN hn in
theorem ziK{a p i:Nat}{d:List UInt8}(hap:a≤p)(hpT:p≤T.length)(hi:D[i]? =some d)(go0:(List UInt8)→Int→(List (List UInt8))→(List AV)→Int→Option (List UInt8×List UInt8×Int))(go1:(List UInt8)→Int→(List (List UInt8))→(List AV)→Int→Int→Option (List UInt8×List UInt8×Int)):
  ∀(k x q:Nat),RepA T d (A.getD i false) x q→x≤T.length→T.length-x<k→Ju N go0 go1 k T (a:Int) D (bv A) (x:Int) (p:Int) (i:Int)=some ((T.drop a).take (p-a),d,(q:Int))
 |0,_,_,_,_,h=>by omega
 |k+1,x,q,hr,hx,hk=>by
  have hil:=Zf hi;have hd:d.length≤1000:=hD d (List.mem_of_getElem? hi);have fin:∀z:Int,Jv N go0 go1 T (a:Int) D z (p:Int) (i:Int)=some ((T.drop a).take (p-a),d,z):=fun z=>by unfold Jv;rw[zm.2 ⟨by omega,by omega,by omega⟩,zb,zn.2 ⟨by omega,by omega⟩,zb,Y7,zjP hi]
  show YL N go0 go1 (Ju N go0 go1 k) T (a:Int) D (bv A) (x:Int) (p:Int) (i:Int)=_;unfold YL;rw[zbT,zn.2 ⟨by omega,by omega⟩,zr9 (by omega),fin];cases ha:A.getD i false with
  |false=>rw[ha]at hr;cases(hr:q=x);rfl
  |true=>
   rw[ha]at hr;rw[show(true&&zez (.bool true))=true from rfl,zb,show zbU (.bool true)=true from rfl,cond_true,zn.2 ⟨by omega,by omega⟩,zb,zjP hi,ZJ hd (by omega),zH];cases hr with
   |stop ho=>rw[ho,cond_false]
   |step ho hr=>obtain⟨h1,h2,h3⟩:=yH ho;rw[ho,cond_true,zb,y7 (by omega) (by omega),zb,show(x:Int)+(d.length:Int)=((x+d.length:Nat):Int)by omega];exact ziK hap hpT hi go0 go1 k (x+d.length) q (by rw[ha];exact hr) h1 (by omega)
omit hN in
theorem zea{a e:Nat}(he:e<T.length)(go0:(List UInt8)→Int→(List (List UInt8))→(List AV)→Int→Option (List UInt8×List UInt8×Int)):∀(k i:Nat),i≤D.length→D.length-i<k→(∀j d,i≤j→D[j]? =some d→oc T d e=false)→
  yy N go0 k T (a:Int) D (bv A) (e:Int) (i:Int)=go0 T (a:Int) D (bv A) ((e+1:Nat):Int)
 |0,_,_,h,_=>by omega
 |k+1,i,hi,hk,hno=>by
  show qA N go0 (yy N go0 k) T (a:Int) D (bv A) (e:Int) (i:Int)=_;unfold qA;by_cases h:i<D.length
  ·have hg:D[i]? =some D[i]:=List.getElem?_eq_getElem h;have hd:(D[i]).length≤1000:=hD _ (List.getElem_mem h);rw[decide_eq_true (show(i:Int)<(D.length:Int)by omega),cond_true,zn.2 ⟨by omega,by omega⟩,zb,zjP hg,ZJ hd (by omega),zH,hno i _ (Nat.le_refl _) hg,Bool.not_false,cond_true,y7 (by omega) (by omega),zb];exact zea he go0 k (i+1) (by omega) (by omega) (fun j d hj=>hno j d (by omega))
  ·rw[decide_eq_false (show¬(i:Int)<(D.length:Int)by omega),cond_false,y7 (by omega) (by omega),zb];rfl
theorem zfz{a p i q:Nat}{d:List UInt8}(hap:a≤p)(hi:D[i]? =some d)(ho:oc T d p=true)(hr:RepA T d (A.getD i false) (p+d.length) q)(hno:∀j d',j<i→D[j]? =some d'→oc T d' p=false)
  (go0:(List UInt8)→Int→(List (List UInt8))→(List AV)→Int→Option (List UInt8×List UInt8×Int)):∀(k j:Nat),j≤i→i-j<k→
  yy N go0 k T (a:Int) D (bv A) (p:Int) (j:Int)=some ((T.drop a).take (p-a),d,(q:Int))
 |0,_,_,h=>by omega
 |k+1,j,hj,hk=>by
  obtain⟨h1,h2,h3⟩:=yH ho;have hil:=Zf hi;have h:j<D.length:=by omega
  have hg:D[j]? =some D[j]:=List.getElem?_eq_getElem h;have hd:(D[j]).length≤1000:=hD _ (List.getElem_mem h);show qA N go0 (yy N go0 k) T (a:Int) D (bv A) (p:Int) (j:Int)=_;unfold qA;rw[decide_eq_true (show(j:Int)<(D.length:Int)by omega),cond_true,zn.2 ⟨by omega,by omega⟩,zb,zjP hg,ZJ hd (by omega),zH];by_cases hji:j<i
  ·rw[hno j _ hji hg,Bool.not_false,cond_true,y7 (by omega) (by omega),zb];exact zfz hap hi ho hr hno go0 k (j+1) (by omega) (by omega)
  ·obtain rfl:j=i:=by omega
   have hdd:D[j]=d:=by rw[hg]at hi;exact Option.some.inj hi
   rw[hdd,ho,Bool.not_true,cond_false,zb,y7 (by omega) (by omega),zb,show(p:Int)+(d.length:Int)=((p+d.length:Nat):Int)by omega];exact ziK hT hD hA hap (by omega) hi go0 _ N (p+d.length) q hr h1 (by omega)
theorem KA{a:Nat}(hf:Found T D a none)(haT:a≤T.length):∀(k e:Nat),a≤e→e≤T.length→T.length-e<k→jP N k T (a:Int) D (bv A) (e:Int)=some (T.drop a,[],(T.length:Int))
 |0,_,_,_,h=>by omega
 |k+1,e,h1,h2,hk=>by
  show qB N (jP N k) T (a:Int) D (bv A) (e:Int)=_;unfold qB;by_cases h:e<T.length
  ·rw[decide_eq_true (show(e:Int)<(T.length:Int)by omega),cond_true];rw[show(0:Int)=((0:Nat):Int)from rfl,zea hT hD hn hA h _ N 0 (by omega) (by omega) (fun j d _ hj=>hf e j d h1 hj)];exact KA hf haT k (e+1) (by omega) (by omega) (by omega)
  ·rw[decide_eq_false (show¬(e:Int)<(T.length:Int)by omega),cond_false,zm.2 ⟨by omega,by omega,by omega⟩,zb];unfold zcT;rw[Int.toNat_natCast]
theorem zcy{a p i q:Nat}{d:List UInt8}(hf:Found T D a (some (p,i)))(hi:D[i]? =some d)(ho:oc T d p=true)(hr:RepA T d (A.getD i false) (p+d.length) q):∀(k e:Nat),a≤e→e≤p→p-e<k→
  jP N k T (a:Int) D (bv A) (e:Int)=some ((T.drop a).take (p-a),d,(q:Int))
 |0,_,_,_,h=>by omega
 |k+1,e,h1,h2,hk=>by
  obtain⟨f1,_,f3,f4⟩:=hf;have hpT:=(yH ho).2.1;show qB N (jP N k) T (a:Int) D (bv A) (e:Int)=_;unfold qB;rw[decide_eq_true (show(e:Int)<(T.length:Int)by omega),cond_true,show(0:Int)=((0:Nat):Int)from rfl];have hil:=Zf hi;by_cases h:e<p
  ·rw[zea hT hD hn hA (by omega) _ N 0 (by omega) (by omega) (fun j d _ hj=>f3 e j d h1 h hj)];exact zcy ⟨f1,⟨d,hi,ho⟩,f3,f4⟩ hi ho hr k (e+1) (by omega) (by omega) (by omega)
  ·obtain rfl:e=p:=by omega
   exact zfz hN hT hD hn hA f1 hi ho hr f4 _ N 0 (by omega) (by omega)
end
theorem Jx{N n:Nat}(hn:n≤100){b:List UInt8}:∀(k i:Nat),i≤n→i≤b.length→n-i<k→jv N k b (n:Int) ((b.take i).map yI) (i:Int)=some ((b.take n).map yI)
 |0,_,_,_,h=>by omega
 |k+1,i,h1,h2,hk=>by
  show yh N (jv N k) b (n:Int) ((b.take i).map yI) (i:Int)=_;unfold yh;by_cases hb:i<b.length
  ·rw[decide_eq_true (show(i:Int)<(b.length:Int)by omega),cond_true];by_cases h10:i<n
   ·have eb:jT b (i:Int)=((b[i]).toNat:Int):=by unfold jT;rw[Int.toNat_natCast,List.getD_eq_getElem?_getD,List.getElem?_eq_getElem hb];rfl
    obtain⟨a1,a2,_⟩:=zep b[i];rw[decide_eq_true (show(i:Int)<(n:Int)by omega),cond_true,zn.2 ⟨by omega,by omega⟩,zb,eb,show Za ((b[i]).toNat:Int)=true from decide_eq_true (by omega),a1,a2];show chk (y9 ((b.take i).map yI) [yI b[i]]) (chk (zw .i64 ((i:Int)+1)) (jv N k b (n:Int) ((b.take i).map yI++[yI b[i]]) ((i+1:Nat):Int)))=_;rw[qm.2 (by simp;omega),zb,y7 (by omega) (by omega),zb];have e:(b.take i).map yI++[yI b[i]]=(b.take (i+1)).map yI:=by rw[List.take_succ_eq_append_getElem hb,List.map_append];rfl
    rw[e];exact Jx hn k (i+1) (by omega) (by omega) (by omega)
   ·obtain rfl:i=n:=by omega
    rw[decide_eq_false (show¬(i:Int)<(i:Int)by omega),cond_false]
  ·rw[decide_eq_false (show¬(i:Int)<(b.length:Int)by omega),cond_false,List.take_of_length_le (by omega),List.take_of_length_le (by omega)]
theorem YM{N n:Nat}(hN:200<N)(hn:n≤100)(b:List UInt8):yT N b (n:Int)=some ((b.take n).map yI):=Jx hn N 0 (by omega) (by omega) (by omega)
section
variable {N : Nat} (hN : 1000 < N) {T : List UInt8} (hT : T.length ≤ 1000) {D : List (List UInt8)} (hD : ∀ d ∈ D, d.length ≤ 1000) (hn : D.length ≤ 100)
variable {l : List AV} {c0 c1 c2 : Bool} {got : List AV} {i : Int} {part : List UInt8} (hp : part.length ≤ 1000) {bh : Int}
include hD hn hp
theorem znx{x:Nat}(hx:x<part.length)(hno:∀(j:Nat)(d:List UInt8),D[j]? =some d→oc part d x=false){go2 go3}{t1:List AV}{t2:Int}{t3:Arr35}{t4 t5 t6 t7:List UInt8}{t8:Bool}:∀(k j:Nat),j≤D.length→D.length-j<k→
  j9 N go2 go3 k (.inr (l,c0,c1,c2,T,got,i,part,bh,(x:Int),(j:Int),t1,t2,t3,t4,t5,t6,t7,t8,D))=go3 (.inr (l,c0,c1,c2,T,got,i,part,bh,((x+1:Nat):Int),t1,t2,t3,t4,t5,t6,t7,t8,D))
 |0,_,_,h=>by omega
 |k+1,j,hj,hk=>by
  show ZD N go2 go3 (j9 N go2 go3 k) l c0 c1 c2 T got i part bh (x:Int) (j:Int) t1 t2 t3 t4 t5 t6 t7 t8 D=_;unfold ZD;by_cases h:j<D.length
  ·have hg:D[j]? =some D[j]:=List.getElem?_eq_getElem h;have hd:(D[j]).length≤1000:=hD _ (List.getElem_mem h);rw[decide_eq_true (show(j:Int)<(D.length:Int)by omega),cond_true,zn.2 ⟨by omega,by omega⟩,zb,zb,zjP hg,ZJ hd (by omega),zH,hno j _ hg,cond_false,y7 (by omega) (by omega),zb];exact znx hx hno k (j+1) (by omega) (by omega)
  ·rw[decide_eq_false (show¬(j:Int)<(D.length:Int)by omega),cond_false,y7 (by omega) (by omega),zb];rfl
include hN
theorem zny(hi:0≤i∧i≤10000)(hno:∀(x j:Nat)(d:List UInt8),D[j]? =some d→oc part d x=false){go2}{t1:List AV}{t2:Int}{t3:Arr35}{t4 t5 t6 t7:List UInt8}{t8:Bool}:∀(k x:Nat),x≤part.length→part.length-x<k→
  jS N go2 k (.inr (l,c0,c1,c2,T,got,i,part,bh,(x:Int),t1,t2,t3,t4,t5,t6,t7,t8,D))=go2 (.inr (l,c0,c1,c2,T,got,bh,i+1,D))
 |0,_,_,h=>by omega
 |k+1,x,hx,hk=>by
  show ZF N go2 (jS N go2 k) l c0 c1 c2 T got i part bh (x:Int) t1 t2 t3 t4 t5 t6 t7 t8 D=_;unfold ZF;by_cases h:x<part.length
  ·rw[decide_eq_true (show(x:Int)<(part.length:Int)by omega),cond_true,show(0:Int)=((0:Nat):Int)from rfl,znx (N:=N) hD hn hp h (fun j d hj=>hno x j d hj) N 0 (by omega) (by omega)];exact zny hi hno k (x+1) (by omega) (by omega)
  ·rw[decide_eq_false (show¬(x:Int)<(part.length:Int)by omega),cond_false,y7 (by omega) (by omega),zb]
end
section
variable {N : Nat} (hN : 1000 < N) {T : List UInt8} {l : List AV} {c0 c1 c2 : Bool} {got : List AV} {i : Int} {part : List UInt8} (hp : part.length ≤ 1000) {bh : Int}
include hN hp
omit hN in
theorem zrB{go2 go3}{t1:List AV}{t2:Int}{t3:Arr35}{t4 t5 t6 t7:List UInt8}{t8:Bool}{x:Nat}{k:Nat}(hk:0<k)(h:x<part.length):
  j9 N go2 go3 k (.inl (l,c0,c1,c2,T,got,i,part,bh,(x:Int),0,t1,t2,t3,t4,t5,t6,t7,t8))=go3 (.inl (l,c0,c1,c2,T,got,i,part,bh,((x+1:Nat):Int),t1,t2,t3,t4,t5,t6,t7,t8)):=by
 cases k with
 |zero=>omega
 |succ m=>show ZE N go2 go3 (j9 N go2 go3 m) l c0 c1 c2 T got i part bh (x:Int) 0 t1 t2 t3 t4 t5 t6 t7 t8=_;unfold ZE;rw[show decide ((0:Int)<0)=false from rfl,cond_false,y7 (by omega) (by omega),zb];rfl
theorem ziO(hi:0≤i∧i≤10000){go2}{t1:List AV}{t2:Int}{t3:Arr35}{t4 t5 t6 t7:List UInt8}{t8:Bool}:∀(k x:Nat),x≤part.length→part.length-x<k→
  jS N go2 k (.inl (l,c0,c1,c2,T,got,i,part,bh,(x:Int),t1,t2,t3,t4,t5,t6,t7,t8))=go2 (.inl (l,c0,c1,c2,T,got,bh,i+1))
 |0,_,_,h=>by omega
 |k+1,x,hx,hk=>by
  show ZG N go2 (jS N go2 k) l c0 c1 c2 T got i part bh (x:Int) t1 t2 t3 t4 t5 t6 t7 t8=_;unfold ZG;by_cases h:x<part.length
  ·rw[decide_eq_true (show(x:Int)<(part.length:Int)by omega),cond_true,zrB hp (by omega) h];exact ziO hi k (x+1) (by omega) (by omega)
  ·rw[decide_eq_false (show¬(x:Int)<(part.length:Int)by omega),cond_false,y7 (by omega) (by omega),zb]
end
theorem zga{gs0 gs:List (List UInt8×List UInt8)}{g:List UInt8×List UInt8}:atV ((gs0++g::gs).map j6) ((gs0.length:Nat):Int)=j6 g:=by unfold atV;rw[Int.toNat_natCast,List.getD_eq_getElem?_getD,List.getElem?_map,List.getElem?_append_right (Nat.le_refl _),Nat.sub_self];rfl
theorem zf3{T:List UInt8}{D:List (List UInt8)}{A:List Bool}{a:Nat}{gs:List (List UInt8×List UInt8)}(h:Cuts T D A a gs):gs.length+a≤T.length:=by
 induction h with
 |fin=>simp
 |last ha _=>simp;omega
 |cons ha hf hi ho hr _ ih=>obtain⟨h1,h2,h3⟩:=yH ho;have:=hr.le;have:=hf.1;simp only[List.length_cons];omega
theorem zrq{T d:List UInt8}{a x:Nat}(h:oc (T.drop a) d x=true):oc T d (a+x)=true:=by have e:(T.drop a).take (T.drop a).length=T.drop a:=List.take_length;rw[←e]at h;exact ziJ h
section
variable {N : Nat} (hN : 1000 < N) {T : List UInt8} (hT : T.length ≤ 1000) {D : List (List UInt8)} (hD : ∀ d ∈ D, d.length ≤ 1000) (hn : D.length ≤ 100) {A : List Bool} (hA : A.length = D.length)
variable {l : List AV} {c0 c1 c2 : Bool} (hl : l.length ≤ 3) (hB : subL ([.bool c0, .bool c1, .bool c2] : List AV) 0 (l.length : Int) = bv A)
include hN hT hD hn hA hl hB
theorem znz:∀(k a:Nat)(gs0 gs:List (List UInt8×List UInt8)),Cuts T D A a gs→gs.length<k→gs0.length+gs.length≤1000→jm N k (.inr (l,c0,c1,c2,T,(gs0++gs).map j6,(a:Int),(gs0.length:Int),D))=some true
 |0,_,_,_,_,h,_=>by omega
 |k+1,a,gs0,gs,hc,hk,hm=>by
  have go:∀(g:List UInt8×List UInt8)(gs':List (List UInt8×List UInt8))(q:Nat),gs=g::gs'→a<T.length→zfL N T (a:Int) D (bv A)=some (g.1,g.2,(q:Int))→g.1.length≤1000→(∀(x j:Nat)(d:List UInt8),D[j]? =some d→oc g.1 d x=false)→Cuts T D A q gs'→
    yw N (jm N k) l c0 c1 c2 T ((gs0++gs).map j6) (a:Int) (gs0.length:Int) D=some true:=by
   rintro g gs' q rfl ha hx hg hno hc';have e0:∀p d:List UInt8,(YK (j6 (p,d)) 2&&(zG (zx (j6 (p,d)) 0)&&(zG (zx (j6 (p,d)) 1)&&true)))=true:=fun _ _=>rfl
   have e1:∀p d:List UInt8,bytesOf (zx (j6 (p,d)) 0)=p:=fun _ _=>rfl
   have e2:∀p d:List UInt8,bytesOf (zx (j6 (p,d)) 1)=d:=fun _ _=>rfl
   obtain⟨p,d⟩:=g;have hlen:(gs0.length:Int)<(((gs0++(p,d)::gs').map j6).length:Int):=by simp;omega
   simp only[List.length_cons]at hk hm;unfold yw;rw[decide_eq_true hlen,cond_true,decide_eq_false (show¬(T.length:Int)≤(a:Int)by omega),cond_false,zm.2 ⟨by omega,by omega,by omega⟩,zb,hB,hx,zH,zn.2 ⟨by omega,hlen⟩,zga,e0,Bool.and_self,zb,zb,e1,e2];dsimp only;rw[decide_eq_true rfl,Bool.not_true,cond_false,decide_eq_true rfl,Bool.not_true,cond_false];rw[show(0:Int)=((0:Nat):Int)from rfl,zny hN hD hn hg ⟨by omega,by omega⟩ hno N 0 (by omega) (by omega)];have:=znz k q (gs0++[(p,d)]) gs' hc' (by omega) (by simp;omega);rw[List.append_assoc,List.length_append,List.length_singleton]at this;exact this
  show yw N (jm N k) l c0 c1 c2 T ((gs0++gs).map j6) (a:Int) (gs0.length:Int) D=_;cases hc with
  |fin=>unfold yw Zg;rw[List.append_nil,decide_eq_false (by simp),cond_false,decide_eq_true rfl];rfl
  |last ha hf=>
   refine go _ _ T.length rfl ha (KA hN hT hD hn hA hf (by omega) N a (Nat.le_refl _) (by omega) (by omega)) (by rw[List.length_drop];omega) (fun x j d hj=>?_) .fin;cases ho:oc (T.drop a) d x with
   |false=>rfl
   |true=>have:=hf (a+x) j d (by omega) hj;rw[zrq ho]at this;cases this
  | @cons _ p i q d gs' ha hf hi ho hr hg=>
   obtain⟨f1,f2,f3,f4⟩:=hf;refine go _ _ q rfl ha (zcy hN hT hD hn hA ⟨f1,f2,f3,f4⟩ hi ho hr N a (Nat.le_refl _) f1 (by have:=(yH ho).2.1;omega)) (by rw[List.length_take,List.length_drop];omega) (fun x j d' hj=>?_) hg;cases ho':oc ((T.drop a).take (p-a)) d' x with
   |false=>rfl
   |true=>have h1:=yH ho';rw[List.length_take,List.length_drop]at h1;have:=f3 (a+x) j d' (by omega) (by omega) hj;rw[ziJ ho']at this;cases this
end
section
variable {N : Nat} (hN : 1000 < N) {T : List UInt8} (hT : T.length ≤ 1000) {c0 c1 c2 : Bool}
include hN hT
theorem ziP:∀(k a:Nat)(gs0 gs:List (List UInt8×List UInt8)),Cuts T [] [] a gs→gs.length<k→gs0.length+gs.length≤1000→jm N k (.inl ([],c0,c1,c2,T,(gs0++gs).map j6,(a:Int),(gs0.length:Int)))=some true
 |0,_,_,_,_,h,_=>by omega
 |k+1,a,gs0,gs,hc,hk,hm=>by
  show qf N (jm N k) [] c0 c1 c2 T ((gs0++gs).map j6) (a:Int) (gs0.length:Int)=_;cases hc with
  |fin=>unfold qf Zg;rw[List.append_nil,decide_eq_false (by simp),cond_false,decide_eq_true rfl];rfl
  |last ha hf=>
   have hx:=KA (A:=[]) hN hT (D:=[]) (fun _ h=>by cases h) (by simp) rfl hf (by omega) N a (Nat.le_refl _) (by omega) (by omega);have hlen:(gs0.length:Int)<(((gs0++[(T.drop a,([]:List UInt8))]).map j6).length:Int):=by simp;omega
   have e0:∀p d:List UInt8,(YK (j6 (p,d)) 2&&(zG (zx (j6 (p,d)) 0)&&(zG (zx (j6 (p,d)) 1)&&true)))=true:=fun _ _=>rfl
   have e1:∀p d:List UInt8,bytesOf (zx (j6 (p,d)) 0)=p:=fun _ _=>rfl
   have e2:∀p d:List UInt8,bytesOf (zx (j6 (p,d)) 1)=d:=fun _ _=>rfl
   simp only[List.length_cons,List.length_nil]at hk hm;unfold qf;rw[decide_eq_true hlen,cond_true,decide_eq_false (show¬(T.length:Int)≤(a:Int)by omega),cond_false,show zR 0 ((([]:List AV).length:Nat):Int) 3=true from rfl,zb,
    show subL ([.bool c0,.bool c1,.bool c2]:List AV) 0 ((([]:List AV).length:Nat):Int)=bv []from rfl,show zfL N T (a:Int) [] (bv [])=_ from hx,zH,zn.2 ⟨by omega,hlen⟩,zga,e0,Bool.and_self,zb,zb,e1,e2]
   dsimp only;rw[decide_eq_true rfl,Bool.not_true,cond_false,decide_eq_true rfl,Bool.not_true,cond_false];rw[show(0:Int)=((0:Nat):Int)from rfl,ziO hN (by rw[List.length_drop];omega) ⟨by omega,by omega⟩ N 0 (by omega) (by rw[List.length_drop];omega)];have:=ziP k T.length (gs0++[(T.drop a,[])]) [] .fin (by simp;omega) (by simp;omega);rw[List.append_nil,List.length_append,List.length_singleton]at this;exact this
  |cons ha hf hi ho hr hg=>simp at hi
end
def dd(l:List AV)(i:Nat):List UInt8:=((bytesOf (atV l (i:Int))).take 2).map yI
def Dn(l:List AV)(i:Nat):List (List UInt8):=(List.range i).map (dd l)
theorem zr0(l:List AV)(i:Nat):Dn l (i+1)=Dn l i++[dd l i]:=by unfold Dn;rw[List.range_succ,List.map_append];rfl
theorem Zb(l:List AV)(i:Nat):(Dn l i).length=i:=by simp[Dn]
theorem ztf{l:List AV}{i:Nat}{d:List UInt8}(h:d∈Dn l i):d.length≤1000:=by obtain⟨j,_,rfl⟩:=List.mem_map.1 h;unfold dd;simp;omega
theorem zrK(D:List (List UInt8))(d:List UInt8):dv (D++[d])=dv D++[.rob false d]:=by simp[dv]
section
variable {N : Nat} (hN : 2000 ≤ N) {T : List UInt8} (hT : T.length ≤ 900) {l : List AV} (hl : ∀ v ∈ l, ∃ b, v = .rob false b) (h3 : l.length ≤ 3) {b0 : Arr24}
include hN hT h3
theorem znJ(hpos:0<l.length):qQ N l T b0 (dv (Dn l l.length)) (Dn l l.length)=some true:=by
 have hD:∀d∈Dn l l.length,d.length≤1000:=fun d=>ztf
 have hn:(Dn l l.length).length≤100:=by rw[Zb];omega
 have hB:subL ([.bool b0.c0,.bool b0.c1,.bool b0.c2]:List AV) 0 (l.length:Int)=bv (([b0.c0,b0.c1,b0.c2]:List Bool).take l.length):=by unfold Am.subL bv;rw[Int.toNat_natCast,Int.toNat_zero,List.drop_zero,List.map_take];rfl
 have hA:(([b0.c0,b0.c1,b0.c2]:List Bool).take l.length).length=(Dn l l.length).length:=by rw[Zb,List.length_take];simp;omega
 obtain⟨gs,h1,h2⟩:=ztz (N:=N) (by omega) (T:=T) (by omega) hD hn hA;have hs:YB N T (dv (Dn l l.length)) (subL (bv (([b0.c0,b0.c1,b0.c2]:List Bool).take l.length)) 0 (qM ((l.length:Int)-1) 0))=some ([],5):=by
  unfold YB;rw[decide_eq_false,Bool.not_false,cond_true];have e:qM ((l.length:Int)-1) 0=((l.length-1:Nat):Int):=by unfold qM;split<;>omega
  rw[e,YR,Zb];unfold Am.subL;rw[Int.toNat_natCast,Int.toNat_zero,List.drop_zero,List.length_take,zbT,hA,Zb];omega
 have e:qM ((l.length:Int)-1) 0=((l.length-1:Nat):Int):=by unfold qM;split<;>omega
 unfold qQ;rw[zm.2 ⟨by omega,by omega,by omega⟩,zb,hB,h2,zH,decide_eq_true rfl,Bool.and_self,zb,y7 (by omega) (by omega),zb,zm.2 ⟨by omega,by omega,by rw[e,zbT,hA,Zb];omega⟩,zb,hs,zH];dsimp only;rw[decide_eq_true rfl,Bool.not_true,cond_false,show decide ((5:Int)=5)=true from rfl,decide_eq_true (show(0:Int)<(l.length:Int)by omega),decide_eq_true rfl,Bool.not_true,cond_false,decide_eq_true rfl,Bool.not_true,cond_false];have hc:=zf3 h1;exact znz (N:=N) (by omega) (by omega) hD hn hA h3 hB N 0 [] gs h1 (by omega) (by simp;omega)
omit h3 in
theorem zsS:J5 N [] T b0=some true:=by
 obtain⟨gs,h1,h2⟩:=ztz (N:=N) (by omega) (T:=T) (by omega) (D:=[]) (fun _ h=>by cases h) (by simp) (A:=[]) rfl;have h2:YB N T ([]:List AV) ([]:List AV)=some (gs.map j6,0):=h2;unfold J5;rw[show zR 0 ((([]:List AV).length:Nat):Int) 3=true from rfl,zb,show subL ([.bool b0.c0,.bool b0.c1,.bool b0.c2]:List AV) 0 ((([]:List AV).length:Nat):Int)=[]from rfl,h2,zH,
  show(true&&decide (((([]:List AV).length:Nat):Int)=((([]:List AV).length:Nat):Int)))=true from rfl,zb,show zw .i64 (((([]:List AV).length:Nat):Int)-1)=true from rfl,zb,
  show qM (((([]:List AV).length:Nat):Int)-1) 0=0 from rfl,show zR 0 0 ([]:List AV).length=true from rfl,zb,show subL ([]:List AV) 0 0=[]from rfl,h2,zH]
 dsimp only;rw[decide_eq_true rfl,Bool.not_true,cond_false,show decide (decide ((0:Int)=5)=decide ((0:Int)<((([]:List AV).length:Nat):Int)))=true from rfl,Bool.not_true,cond_false,decide_eq_true rfl,Bool.not_true,cond_false];have hc:=zf3 h1;exact ziP (N:=N) (by omega) (by omega) N 0 [] gs h1 (by omega) (by simp;omega)
include hl
theorem znC:∀(k i:Nat),1≤i→i≤l.length→l.length-i<k→ym N k (.inr (l,T,(i:Int),b0,dv (Dn l i),Dn l i))=some true
 |0,_,_,_,h=>by omega
 |k+1,i,h1,hi,hk=>by
  show ZB N (ym N k) l T (i:Int) b0 (dv (Dn l i)) (Dn l i)=_;unfold ZB;by_cases h:i<l.length
  ·obtain⟨b,hb⟩:=hl l[i] (List.getElem_mem h);have hg:atV l (i:Int)=.rob false b:=by unfold atV;rw[Int.toNat_natCast,List.getD_eq_getElem?_getD,List.getElem?_eq_getElem h,hb];rfl
   have hdd:dd l i=(b.take 2).map yI:=by unfold dd;rw[hg];rfl
   have hat:atS (Dn l i++[dd l i]) (i:Int)=dd l i:=zjP (by rw[List.getElem?_append_right (by rw[Zb];exact Nat.le_refl _),Zb,Nat.sub_self];rfl);rw[decide_eq_true (show(i:Int)<(l.length:Int)by omega),cond_true,hg,zn.2 ⟨by omega,by omega⟩,show zG (.rob false b)=true from rfl,Bool.and_self,zb,show bytesOf (.rob false b)=b from rfl,
    show(2:Int)=((2:Nat):Int)from rfl,YM (by omega) (by omega) b,zH,←hdd,hat,ziR (by rw[List.length_append,Zb];simp;omega),zb,zn.2 ⟨by omega,by rw[List.length_append,Zb];simp;omega⟩,zb,zb,
    zfT (by rw[List.length_append,YR,Zb];simp;omega),zb,y7 (by omega) (by omega),zb,←zrK,←zr0]
   exact znC k (i+1) (by omega) (by omega) (by omega)
  ·obtain rfl:i=l.length:=by omega
   rw[decide_eq_false (show¬(l.length:Int)<(l.length:Int)by omega),cond_false];exact znJ hN hT h3 (by omega)
theorem znD(k:Nat)(hk:l.length≤k):ym N (k+1) (.inl (l,T,0,b0))=some true:=by
 show ZC N (ym N k) l T ((0:Nat):Int) b0=_;unfold ZC;by_cases h:0<l.length
 ·obtain⟨b,hb⟩:=hl l[0] (List.getElem_mem h);have hg:atV l ((0:Nat):Int)=.rob false b:=by unfold atV;rw[Int.toNat_natCast,List.getD_eq_getElem?_getD,List.getElem?_eq_getElem h,hb];rfl
  have hdd:dd l 0=(b.take 2).map yI:=by unfold dd;rw[hg];rfl
  rw[decide_eq_true (show((0:Nat):Int)<(l.length:Int)by omega),cond_true,hg,zn.2 ⟨by omega,by omega⟩,show zG (.rob false b)=true from rfl,Bool.and_self,zb,show bytesOf (.rob false b)=b from rfl,
   show(2:Int)=((2:Nat):Int)from rfl,YM (by omega) (by omega) b,zH,←hdd,List.nil_append,List.nil_append,ziR (by simp),zb,show zU ((0:Nat):Int) [dd l 0].length=true from rfl,zb,zb,
   zfT (by simp),zb,show zw .i64 (((0:Nat):Int)+1)=true from rfl,zb]
  exact znC hN hT hl h3 k 1 (by omega) (by omega) (by omega)
 ·have h0:l=[]:=List.length_eq_zero_iff.1 (by omega);subst h0;exact zsS hN hT
end
theorem zfH(b:List UInt8)(l:List AV)(z:Arr24)(hl:∀v∈l,∃b,v=.rob false b):∃N,ZH N b l z=some true:=by
 refine⟨2000,?_⟩;unfold ZH;by_cases h60:60<b.length
 ·rw[decide_eq_true (show(60:Int)<(b.length:Int)by omega),cond_true]
 rw[decide_eq_false (show¬(60:Int)<(b.length:Int)by omega),cond_false];by_cases h3:3<l.length
 ·rw[decide_eq_true (show(3:Int)<(l.length:Int)by omega),cond_true]
 rw[decide_eq_false (show¬(3:Int)<(l.length:Int)by omega),cond_false,show(60:Int)=((60:Nat):Int)from rfl,YM (by omega) (by omega) b,zH];exact znD (N:=2000) (by omega) (by simp;omega) hl (by omega) 1999 (by omega)
end Go.Proofs.C06
end
