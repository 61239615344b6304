/-
  A part of the proof of the laws on moves.
-/
import Derived.Test.YtpghlpmkljkakaaGreatDoorPd
import Derived.Test.YtpghlpmkljkakaaGreatDoorS6
section
set_option maxRecDepth 100000
namespace Go.Proofs.C06
open Go Go.RowKit Go.Vc Go.Am
def Xp(s:Shape)(c:Int):Int:=if chkV s≠0 then 1 else if s.Category≠c then 12 else 0
theorem zfl{N:Nat}(hN:1000<N){s:Shape}(hp:s.Picture.length≤400)(c:Int):zfm N s c=some (Xp s c):=by
 unfold zfm Xp;rw[Z4 hN hp,zc,zf,zf];by_cases h:chkV s=0
 ·by_cases h2:s.Category=c<;>simp[h,h2]
 ·simp[h]
def zsB(c:UInt8)(neg:Bool):UInt8:=if neg=true then 45 else if c=43 then 43 else 32
def shw(c:UInt8)(neg:Bool):UInt8:=if c=66 then 32 else if c=48 then 48 else if c=47 then 47 else if c=44 then 44 else if c=46 then 46 else if c=36 then 36 else zsB c neg
theorem Zf(c:UInt8)(k:Nat)(hk:k<256):((c.toNat:Int)=(k:Int))↔c=UInt8.ofNat k:=by
 have h1:(UInt8.ofNat k).toNat=k:=by simp;omega
 rw[←UInt8.toNat_inj,h1];omega
theorem zrC(N:Nat)(c:UInt8)(neg:Bool):zot N (c.toNat:Int) neg=some ((zsB c neg).toNat:Int):=by
 unfold zot zsB;have h43:=Zf c 43 (by decide);cases neg
 ·by_cases h:c=43
  ·subst h;rfl
  ·have:decide ((c.toNat:Int)=43)=false:=decide_eq_false (fun e=>h (h43.1 e));rw[this];simp[h]
 ·rfl
theorem zoU(c:UInt8)(k:Nat)(hk:k<256):((k:Int)=(c.toNat:Int))↔c=UInt8.ofNat k:=by rw[eq_comm];exact Zf c k hk
theorem QT(N:Nat)(c:UInt8)(neg:Bool):JY N (c.toNat:Int) neg=some ((shw c neg).toNat:Int):=by
 by_cases e1:c=66
 ·subst e1;rfl
 by_cases e2:c=48
 ·subst e2;rfl
 by_cases e3:c=47
 ·subst e3;rfl
 by_cases e4:c=44
 ·subst e4;rfl
 by_cases e5:c=46
 ·subst e5;rfl
 by_cases e6:c=36
 ·subst e6;rfl
 unfold JY shw;have d66:decide ((66:Int)=(c.toNat:Int))=false:=decide_eq_false (fun e=>e1 ((zoU c 66 (by decide)).1 e));have d48:decide ((48:Int)=(c.toNat:Int))=false:=decide_eq_false (fun e=>e2 ((zoU c 48 (by decide)).1 e));have d47:decide ((47:Int)=(c.toNat:Int))=false:=decide_eq_false (fun e=>e3 ((zoU c 47 (by decide)).1 e));have d44:decide ((44:Int)=(c.toNat:Int))=false:=decide_eq_false (fun e=>e4 ((zoU c 44 (by decide)).1 e));have d46:decide ((46:Int)=(c.toNat:Int))=false:=decide_eq_false (fun e=>e5 ((zoU c 46 (by decide)).1 e));have d36:decide ((36:Int)=(c.toNat:Int))=false:=decide_eq_false (fun e=>e6 ((zoU c 36 (by decide)).1 e));rw[d66,d48,d47,d44,d46,d36,if_neg e1,if_neg e2,if_neg e3,if_neg e4,if_neg e5,if_neg e6,zrC];rfl
def txt:List UInt8→List UInt8→List UInt8
 |[],_=>[]
 |c::p,b=>if c=65∨c=88∨c=57 then b.headD 32::txt p b.tail else shw c false::txt p b
theorem jL(c:UInt8):inKb .u8 (c.toNat:Int)=true:=yl.2 ⟨by show(0:Int)≤_;omega,by show(c.toNat:Int)≤255;have:=c.toNat_lt;omega⟩
theorem jv(c:UInt8):toByte (c.toNat:Int)=c:=by unfold toByte;simp
theorem zrF(N:Nat)(b:List UInt8):zou N b=some (((b.headD 32).toNat:Int),b.tail):=by
 unfold zou;rw[zb];cases b with
 |nil=>rfl
 |cons c r=>
  rw[if_neg (by simp only[List.length_cons];omega)];have h1:inIx 0 (c::r).length=true:=zm.2 ⟨by omega,by simp only[List.length_cons];omega⟩;have h2:zj 1 ((c::r).length:Int) (c::r).length=true:=by unfold zj;simp only[List.length_cons,Bool.and_eq_true,decide_eq_true_eq];omega
  rw[h1,h2,za,za,zqs];rfl
theorem zlO{N:Nat}(go:Int→Int→Shape→List UInt8→List UInt8→Option (List UInt8×Int))(u:UInt8)(t:Int)(i:Nat)(s:Shape)(out b:List UInt8)(hi:i≤1000)(ho:out.length≤1000)(t36:Bool):
  Qe N go (u.toNat:Int) t (i:Int) t36 s out b=if t36=true then go t ((i+1:Nat):Int) s (out++[b.headD 32]) b.tail else go t ((i+1:Nat):Int) s (out++[shw u false]) b:=by
 unfold Qe;have hk:inKb .i64 ((i:Int)+1)=true:=zg (by omega) (by omega);have hg:∀c:UInt8,zt 1 (out++[c]).length=true:=fun c=>jA (by rw[List.length_append,List.length_singleton];omega)
 cases t36
 ·rw[cond_false,QT,zc,jL,List.map_singleton,jv,hg,hk];rfl
 ·rw[cond_true,zrF,zc];simp only[];rw[jL,List.map_singleton,jv,hg,hk];rfl
theorem clip_is{N:Nat}(l:List UInt8):Ko N l=some l:=by
 unfold Ko;have h:zj 0 (l.length:Int) l.length=true:=by unfold zj;simp only[Bool.and_eq_true,decide_eq_true_eq];omega
 simp[h,Vc.sub]
theorem J7{N:Nat}{s:Shape}(hs:s.Picture.length≤400):∀(n i:Nat)(out b:List UInt8),i≤s.Picture.length→s.Picture.length-i<n→out.length+(s.Picture.length-i)≤1000→
  Zz N n (s.Picture.length:Int) (i:Int) s out b=some (out++txt (s.Picture.drop i) b,0)
 |0,i,out,b,_,h,_=>by omega
 |n+1,i,out,b,hi,hn,ho=>by
  show WX N (Zz N n) _ _ s out b=_;unfold WX;rw[zb];by_cases h:i<s.Picture.length
  ·rw[if_pos (by omega),jb h,za,zx];obtain⟨c,hc⟩:∃c,s.Picture.getD i 0=c:=⟨_,rfl⟩
   have hd:s.Picture.drop i=c::s.Picture.drop (i+1):=by rw[List.drop_eq_getElem_cons h,←hc,List.getD_eq_getElem?_getD,List.getElem?_eq_getElem h];rfl
   rw[hc,hd];have e65:((c.toNat:Int)=65)↔c=65:=Zf c 65 (by decide);have e88:((c.toNat:Int)=88)↔c=88:=Zf c 88 (by decide);have e57:((c.toNat:Int)=57)↔c=57:=Zf c 57 (by decide);have ih1:=fun o=>J7 (N:=N) hs n (i+1) (out++[o])
   have yes:(c=65∨c=88∨c=57)→Zz N n (s.Picture.length:Int) ((i+1:Nat):Int) s (out++[b.headD 32]) b.tail=some (out++txt (c::s.Picture.drop (i+1)) b,0):=fun hh=>by rw[J7 hs n (i+1) _ _ (by omega) (by omega) (by rw[List.length_append,List.length_singleton];omega)];rw[txt,if_pos hh,List.append_assoc];rfl
   have no:¬(c=65∨c=88∨c=57)→Zz N n (s.Picture.length:Int) ((i+1:Nat):Int) s (out++[shw c false]) b=some (out++txt (c::s.Picture.drop (i+1)) b,0):=fun hh=>by rw[J7 hs n (i+1) _ _ (by omega) (by omega) (by rw[List.length_append,List.length_singleton];omega)];rw[txt,if_neg hh,List.append_assoc];rfl
   simp only[zlO _ c _ i s out b (by omega) (by omega),zb,decide_eq_true_eq];by_cases h1:c=65
   ·rw[if_pos (e65.2 h1),if_pos (e65.2 h1)];exact yes (.inl h1)
   ·rw[if_neg (fun e=>h1 (e65.1 e))];by_cases h2:c=88
    ·rw[if_pos (e88.2 h2),if_pos (e88.2 h2)];exact yes (.inr (.inl h2))
    ·rw[if_neg (fun e=>h2 (e88.1 e))];by_cases h3:c=57
     ·rw[if_pos (e57.2 h3)];exact yes (.inr (.inr h3))
     ·rw[if_neg (fun e=>h3 (e57.1 e))];exact no (by rintro(e|e|e)<;>contradiction)
  ·have:i=s.Picture.length:=by omega
   subst this;rw[if_neg (by omega),clip_is,zc,List.drop_length];simp[txt]
theorem zlP{N:Nat}(hN:1000<N){s:Shape}(hp:s.Picture.length≤400)(b:List UInt8)(hs:Xp s 3=0→0≤s.Size∧s.Size≤1000):
  zfP N b s=some (if Xp s 3≠0 then([],Xp s 3)else(txt s.Picture b,0)):=by
 unfold zfP;rw[zfl hN hp,zc,zf];by_cases h:Xp s 3=0
 ·obtain⟨h1,h2⟩:=hs h;have hm:XO 1 s.Size=true:=by obtain⟨k,hk⟩:=Int.eq_ofNat_of_zero_le h1;rw[hk];show(Nat.ble (1*k) 281474976710656&&Nat.ble k 9223372036854775807)=true;simp only[Bool.and_eq_true,Nat.ble_eq];omega
  rw[if_pos h,if_neg (fun k=>k h),hm,decide_eq_true h1,Bool.true_and,Bool.and_true,show decide ((0:Nat)≤0)=true from rfl,za];have:=J7 (N:=N) hp N 0 [] b (by omega) (by omega) (by simp;omega);simpa using this
 ·rw[if_neg h,if_pos h]
end Go.Proofs.C06
end
section
set_option maxRecDepth 100000
namespace Go.Proofs.C06
open Go Go.RowKit Go.Vc Go.Am
theorem zcd{set:List UInt8}:∀{s:List UInt8},(∀c∈s,set.contains c=true)→cnt set s=s.length
 |[],_=>rfl
 |c::s,h=>by rw[jN,if_pos (h c (by simp)),zcd (fun x hx=>h x (by simp[hx]))];rfl
theorem zjd{set:List UInt8}:∀{s:List UInt8},cnt set s=s.length→∀c∈s,set.contains c=true
 |[],_,c,hc=>by cases hc
 |x::s,h,c,hc=>by
  rw[jN]at h;split at h
  ·rename_i hx;rcases List.mem_cons.1 hc with rfl|hc
   ·exact hx
   ·exact zjd (by simpa using h) c hc
  ·simp at h
theorem zkQ{p:List UInt8}{sh:Shape}(h:Good p sh):chkV sh=0:=by
 have hpar:=zhd h;have hc:=h.cat;have hu:=h.use;have e1:yF sh=0:=by
  unfold yF;rw[if_neg (by omega),if_neg (by omega),if_neg];rintro⟨h4,h5|h5⟩
  ·have:=h.num h4;omega
  ·have:=h.dig;omega
 unfold chkV;rw[if_neg (fun k=>k e1),if_neg (by omega)];unfold zc7;rw[h.pic,hpar];simp only[ne_eq,not_true_eq_false,if_false,h.pic,or_self,decide_false];unfold Xk;simp[h.led,h.sep,h.jus,h.bla,h.siz,hu]
def sy6(c:UInt8):UInt8:=([88,65,57,66,48,47]:List UInt8).getD (c.toNat%6) 0
def picT(l:List UInt8):List UInt8:=88::l.map sy6
theorem ztY(c:UInt8):([65,88,57,66,48,47]:List UInt8).contains (sy6 c)=true:=by
 unfold sy6;have h:c.toNat%6<6:=Nat.mod_lt _ (by decide);generalize c.toNat%6=j at h;rcases j with _|_|_|_|_|_|j
 all_goals first|rfl|omega
theorem zjR{c:UInt8}(h:([65,88,57,66,48,47]:List UInt8).contains c=true):syms.contains c=true∧c≠86:=by simp only[List.contains_cons,List.contains_nil,Bool.or_false,Bool.or_eq_true,beq_iff_eq]at h;rcases h with rfl|rfl|rfl|rfl|rfl|rfl<;>decide
theorem zif(l:List UInt8):∀c∈picT l,([65,88,57,66,48,47]:List UInt8).contains c=true:=by
 intro c hc;unfold picT at hc;rcases List.mem_cons.1 hc with rfl|hc
 ·rfl
 ·obtain⟨a,_,rfl⟩:=List.mem_map.1 hc;exact ztY a
def zfs(l:List UInt8):Int:=if cnt [65,88,57] (picT l)=(picT l).length then 2 else 3
def shT(l:List UInt8):Shape:=Shape.mk (zfs l) 0 (picT l) 0 0 false false false false false ((picT l).length:Int)
theorem zpw{l:List UInt8}(hl:l.length≤20):Good (picT l) (shT l):=by
 have hI:zfs l=2∨zfs l=3:=by unfold zfs;split<;>simp
 have h86:(picT l).count 86=0:=List.count_eq_zero.2 fun hc=>(zjR (zif l 86 hc)).2 rfl
 exact {
  par:=by
   have h1:¬cnt [65] (picT l)=(picT l).length:=by unfold picT;rw[jN,if_neg (by decide)];simp
   have h2:¬(picT l).countP zpq=0:=by unfold picT;rw[List.countP_cons_of_pos (by rfl)];omega
   unfold parS zbv shT zfs;rw[if_neg h1,if_neg h2];by_cases h3:cnt [65,88,57] (picT l)=(picT l).length
   ·rw[if_pos h3,if_pos h3]
   ·rw[if_neg h3,if_neg h3,if_pos (zcd (zif l))]
  ne:=by unfold picT;simp
  len:=by unfold picT;simp;omega
  sym:=fun c hc=>(zjR (zif l c hc)).1
  pic:=rfl
  cat:=by show 1≤zfs l∧zfs l≤5;omega
  use:=rfl
  dig:=by show(0:Int)≤18;decide
  num:=fun h=>by have h:zfs l=4:=h;omega
  sca:=by show(0:Int)≤18;decide
  led:=rfl
  sep:=rfl
  jus:=rfl
  bla:=rfl
  siz:=by
   show((picT l).length:Int)=sizeV (shT l);unfold sizeV;rw[if_neg (show¬(shT l).Category=0 from fun e=>by have e:zfs l=0:=e;omega),if_pos (show(shT l).Category≠4 from fun e=>by have e:zfs l=4:=e;omega)];unfold szN;show((picT l).length:Int)=(((picT l).length-(picT l).count 86:Nat):Int)
   rw[h86,Nat.sub_zero]}
end Go.Proofs.C06
end
