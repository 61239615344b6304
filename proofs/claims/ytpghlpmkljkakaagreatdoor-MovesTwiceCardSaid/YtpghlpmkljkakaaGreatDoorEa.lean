/-
  A part of the proof of the laws on moves.
-/
import Derived.Test.YtpghlpmkljkakaaGreatDoorPd
import Derived.Test.YtpghlpmkljkakaaGreatDoorS6
section
set_option maxRecDepth 100000
namespace Go.Proofs.C06
open Go Go.RowKit Go.Vc Go.Am
def Xo(s:Shape)(c:Int):Int:=if chkV s≠0 then 1 else if s.Category≠c then 12 else 0
theorem ze9{N:Nat}(hN:1000<N){s:Shape}(hp:s.Picture.length≤400)(c:Int):zfa N s c=some (Xo s c):=by
 unfold zfa Xo;rw[Qg hN hp,zc,zf,zf];by_cases h:chkV s=0
 ·by_cases h2:s.Category=c<;>simp[h,h2]
 ·simp[h]
def zr5(c:UInt8)(neg:Bool):UInt8:=if neg=true then 45 else if c=43 then 43 else 32
def shw(c:UInt8)(neg:Bool):UInt8:=if c=66 then 32 else if c=48 then 48 else if c=47 then 47 else if c=44 then 44 else if c=46 then 46 else if c=36 then 36 else zr5 c neg
theorem qF(c:UInt8)(k:Nat)(hk:k<256):((c.toNat:Int)=(k:Int))↔c=UInt8.ofNat k:=by
 have h1:(UInt8.ofNat k).toNat=k:=by simp;omega
 rw[←UInt8.toNat_inj,h1];omega
theorem zq7(N:Nat)(c:UInt8)(neg:Bool):zn0 N (c.toNat:Int) neg=some ((zr5 c neg).toNat:Int):=by
 unfold zn0 zr5;have h43:=qF c 43 (by decide);cases neg
 ·by_cases h:c=43
  ·subst h;rfl
  ·have:decide ((c.toNat:Int)=43)=false:=decide_eq_false (fun e=>h (h43.1 e));rw[this];simp[h]
 ·rfl
theorem zor(c:UInt8)(k:Nat)(hk:k<256):((k:Int)=(c.toNat:Int))↔c=UInt8.ofNat k:=by rw[eq_comm];exact qF c k hk
theorem QT(N:Nat)(c:UInt8)(neg:Bool):J2 N (c.toNat:Int) neg=some ((shw c neg).toNat:Int):=by
 by_cases e1:c=66
 ·subst e1;rfl
 by_cases e2:c=48
 ·subst e2;rfl
 by_cases e3:c=47
 ·subst e3;rfl
 by_cases e4:c=44
 ·subst e4;rfl
 by_cases e5:c=46
 ·subst e5;rfl
 by_cases e6:c=36
 ·subst e6;rfl
 unfold J2 shw;have d66:decide ((66:Int)=(c.toNat:Int))=false:=decide_eq_false (fun e=>e1 ((zor c 66 (by decide)).1 e));have d48:decide ((48:Int)=(c.toNat:Int))=false:=decide_eq_false (fun e=>e2 ((zor c 48 (by decide)).1 e));have d47:decide ((47:Int)=(c.toNat:Int))=false:=decide_eq_false (fun e=>e3 ((zor c 47 (by decide)).1 e));have d44:decide ((44:Int)=(c.toNat:Int))=false:=decide_eq_false (fun e=>e4 ((zor c 44 (by decide)).1 e));have d46:decide ((46:Int)=(c.toNat:Int))=false:=decide_eq_false (fun e=>e5 ((zor c 46 (by decide)).1 e));have d36:decide ((36:Int)=(c.toNat:Int))=false:=decide_eq_false (fun e=>e6 ((zor c 36 (by decide)).1 e));rw[d66,d48,d47,d44,d46,d36,if_neg e1,if_neg e2,if_neg e3,if_neg e4,if_neg e5,if_neg e6,zq7];rfl
def txt:List UInt8→List UInt8→List UInt8
 |[],_=>[]
 |c::p,b=>if c=65∨c=88∨c=57 then b.headD 32::txt p b.tail else shw c false::txt p b
theorem jx(c:UInt8):inKb .u8 (c.toNat:Int)=true:=yg.2 ⟨by show(0:Int)≤_;omega,by show(c.toNat:Int)≤255;have:=c.toNat_lt;omega⟩
theorem jr(c:UInt8):toByte (c.toNat:Int)=c:=by unfold toByte;simp
theorem zra(N:Nat)(b:List UInt8):zn1 N b=some (((b.headD 32).toNat:Int),b.tail):=by
 unfold zn1;rw[zb];cases b with
 |nil=>rfl
 |cons c r=>
  rw[if_neg (by simp only[List.length_cons];omega)];have h1:inIx 0 (c::r).length=true:=zo.2 ⟨by omega,by simp only[List.length_cons];omega⟩;have h2:zj 1 ((c::r).length:Int) (c::r).length=true:=by unfold zj;simp only[List.length_cons,Bool.and_eq_true,decide_eq_true_eq];omega
  rw[h1,h2,za,za,zpW];rfl
theorem zln{N:Nat}(go:Int→Int→Shape→List UInt8→List UInt8→Option (List UInt8×Int))(u:UInt8)(t:Int)(i:Nat)(s:Shape)(out b:List UInt8)(hi:i≤1000)(ho:out.length≤1000)(t36:Bool):
  Qf N go (u.toNat:Int) t (i:Int) t36 s out b=if t36=true then go t ((i+1:Nat):Int) s (out++[b.headD 32]) b.tail else go t ((i+1:Nat):Int) s (out++[shw u false]) b:=by
 unfold Qf;have hk:inKb .i64 ((i:Int)+1)=true:=zg (by omega) (by omega);have hg:∀c:UInt8,zw 1 (out++[c]).length=true:=fun c=>jA (by rw[List.length_append,List.length_singleton];omega)
 cases t36
 ·rw[cond_false,QT,zc,jx,List.map_singleton,jr,hg,hk];rfl
 ·rw[cond_true,zra,zc];simp only[];rw[jx,List.map_singleton,jr,hg,hk];rfl
theorem clip_is{N:Nat}(l:List UInt8):Kl N l=some l:=by
 unfold Kl;have h:zj 0 (l.length:Int) l.length=true:=by unfold zj;simp only[Bool.and_eq_true,decide_eq_true_eq];omega
 simp[h,Vc.sub]
theorem Ya{N:Nat}{s:Shape}(hs:s.Picture.length≤400):∀(n i:Nat)(out b:List UInt8),i≤s.Picture.length→s.Picture.length-i<n→out.length+(s.Picture.length-i)≤1000→
  Zz N n (s.Picture.length:Int) (i:Int) s out b=some (out++txt (s.Picture.drop i) b,0)
 |0,i,out,b,_,h,_=>by omega
 |n+1,i,out,b,hi,hn,ho=>by
  show WM N (Zz N n) _ _ s out b=_;unfold WM;rw[zb];by_cases h:i<s.Picture.length
  ·rw[if_pos (by omega),je h,za,zx];obtain⟨c,hc⟩:∃c,s.Picture.getD i 0=c:=⟨_,rfl⟩
   have hd:s.Picture.drop i=c::s.Picture.drop (i+1):=by rw[List.drop_eq_getElem_cons h,←hc,List.getD_eq_getElem?_getD,List.getElem?_eq_getElem h];rfl
   rw[hc,hd];have e65:((c.toNat:Int)=65)↔c=65:=qF c 65 (by decide);have e88:((c.toNat:Int)=88)↔c=88:=qF c 88 (by decide);have e57:((c.toNat:Int)=57)↔c=57:=qF c 57 (by decide);have ih1:=fun o=>Ya (N:=N) hs n (i+1) (out++[o])
   have yes:(c=65∨c=88∨c=57)→Zz N n (s.Picture.length:Int) ((i+1:Nat):Int) s (out++[b.headD 32]) b.tail=some (out++txt (c::s.Picture.drop (i+1)) b,0):=fun hh=>by rw[Ya hs n (i+1) _ _ (by omega) (by omega) (by rw[List.length_append,List.length_singleton];omega)];rw[txt,if_pos hh,List.append_assoc];rfl
   have no:¬(c=65∨c=88∨c=57)→Zz N n (s.Picture.length:Int) ((i+1:Nat):Int) s (out++[shw c false]) b=some (out++txt (c::s.Picture.drop (i+1)) b,0):=fun hh=>by rw[Ya hs n (i+1) _ _ (by omega) (by omega) (by rw[List.length_append,List.length_singleton];omega)];rw[txt,if_neg hh,List.append_assoc];rfl
   simp only[zln _ c _ i s out b (by omega) (by omega),zb,decide_eq_true_eq];by_cases h1:c=65
   ·rw[if_pos (e65.2 h1),if_pos (e65.2 h1)];exact yes (.inl h1)
   ·rw[if_neg (fun e=>h1 (e65.1 e))];by_cases h2:c=88
    ·rw[if_pos (e88.2 h2),if_pos (e88.2 h2)];exact yes (.inr (.inl h2))
    ·rw[if_neg (fun e=>h2 (e88.1 e))];by_cases h3:c=57
     ·rw[if_pos (e57.2 h3)];exact yes (.inr (.inr h3))
     ·rw[if_neg (fun e=>h3 (e57.1 e))];exact no (by rintro(e|e|e)<;>contradiction)
  ·have:i=s.Picture.length:=by omega
   subst this;rw[if_neg (by omega),clip_is,zc,List.drop_length];simp[txt]
theorem zfB{N:Nat}(hN:1000<N){s:Shape}(hp:s.Picture.length≤400)(b:List UInt8)(hs:Xo s 3=0→0≤s.Size∧s.Size≤1000):
  zhk N b s=some (if Xo s 3≠0 then([],Xo s 3)else(txt s.Picture b,0)):=by
 unfold zhk;rw[ze9 hN hp,zc,zf];by_cases h:Xo s 3=0
 ·obtain⟨h1,h2⟩:=hs h;have hm:XN 1 s.Size=true:=by obtain⟨k,hk⟩:=Int.eq_ofNat_of_zero_le h1;rw[hk];show(Nat.ble (1*k) 281474976710656&&Nat.ble k 9223372036854775807)=true;simp only[Bool.and_eq_true,Nat.ble_eq];omega
  rw[if_pos h,if_neg (fun k=>k h),hm,decide_eq_true h1,Bool.true_and,Bool.and_true,show decide ((0:Nat)≤0)=true from rfl,za];have:=Ya (N:=N) hp N 0 [] b (by omega) (by omega) (by simp;omega);simpa using this
 ·rw[if_neg h,if_pos h]
end Go.Proofs.C06
end
section
set_option maxRecDepth 100000
namespace Go.Proofs.C06
open Go Go.RowKit Go.Vc Go.Am
theorem zb8{set:List UInt8}:∀{s:List UInt8},(∀c∈s,set.contains c=true)→cnt set s=s.length
 |[],_=>rfl
 |c::s,h=>by rw[jN,if_pos (h c (by simp)),zb8 (fun x hx=>h x (by simp[hx]))];rfl
theorem ziP{set:List UInt8}:∀{s:List UInt8},cnt set s=s.length→∀c∈s,set.contains c=true
 |[],_,c,hc=>by cases hc
 |x::s,h,c,hc=>by
  rw[jN]at h;split at h
  ·rename_i hx;rcases List.mem_cons.1 hc with rfl|hc
   ·exact hx
   ·exact ziP (by simpa using h) c hc
  ·simp at h
theorem zks{p:List UInt8}{sh:Shape}(h:Good p sh):chkV sh=0:=by
 have hpar:=zgT h;have hc:=h.cat;have hu:=h.use;have e1:yB sh=0:=by
  unfold yB;rw[if_neg (by omega),if_neg (by omega),if_neg];rintro⟨h4,h5|h5⟩
  ·have:=h.num h4;omega
  ·have:=h.dig;omega
 unfold chkV;rw[if_neg (fun k=>k e1),if_neg (by omega)];unfold zcX;rw[h.pic,hpar];simp only[ne_eq,not_true_eq_false,if_false,h.pic,or_self,decide_false];unfold Xj;simp[h.led,h.sep,h.jus,h.bla,h.siz,hu]
def sy6(c:UInt8):UInt8:=([88,65,57,66,48,47]:List UInt8).getD (c.toNat%6) 0
def picT(l:List UInt8):List UInt8:=88::l.map sy6
theorem ztm(c:UInt8):([65,88,57,66,48,47]:List UInt8).contains (sy6 c)=true:=by
 unfold sy6;have h:c.toNat%6<6:=Nat.mod_lt _ (by decide);generalize c.toNat%6=j at h;rcases j with _|_|_|_|_|_|j
 all_goals first|rfl|omega
theorem zjv{c:UInt8}(h:([65,88,57,66,48,47]:List UInt8).contains c=true):syms.contains c=true∧c≠86:=by simp only[List.contains_cons,List.contains_nil,Bool.or_false,Bool.or_eq_true,beq_iff_eq]at h;rcases h with rfl|rfl|rfl|rfl|rfl|rfl<;>decide
theorem zhS(l:List UInt8):∀c∈picT l,([65,88,57,66,48,47]:List UInt8).contains c=true:=by
 intro c hc;unfold picT at hc;rcases List.mem_cons.1 hc with rfl|hc
 ·rfl
 ·obtain⟨a,_,rfl⟩:=List.mem_map.1 hc;exact ztm a
def zfi(l:List UInt8):Int:=if cnt [65,88,57] (picT l)=(picT l).length then 2 else 3
def shT(l:List UInt8):Shape:=Shape.mk (zfi l) 0 (picT l) 0 0 false false false false false ((picT l).length:Int)
theorem zoX{l:List UInt8}(hl:l.length≤20):Good (picT l) (shT l):=by
 have hI:zfi l=2∨zfi l=3:=by unfold zfi;split<;>simp
 have h86:(picT l).count 86=0:=List.count_eq_zero.2 fun hc=>(zjv (zhS l 86 hc)).2 rfl
 exact {
  par:=by
   have h1:¬cnt [65] (picT l)=(picT l).length:=by unfold picT;rw[jN,if_neg (by decide)];simp
   have h2:¬(picT l).countP zoR=0:=by unfold picT;rw[List.countP_cons_of_pos (by rfl)];omega
   unfold parS zbs shT zfi;rw[if_neg h1,if_neg h2];by_cases h3:cnt [65,88,57] (picT l)=(picT l).length
   ·rw[if_pos h3,if_pos h3]
   ·rw[if_neg h3,if_neg h3,if_pos (zb8 (zhS l))]
  ne:=by unfold picT;simp
  len:=by unfold picT;simp;omega
  sym:=fun c hc=>(zjv (zhS l c hc)).1
  pic:=rfl
  cat:=by show 1≤zfi l∧zfi l≤5;omega
  use:=rfl
  dig:=by show(0:Int)≤18;decide
  num:=fun h=>by have h:zfi l=4:=h;omega
  sca:=by show(0:Int)≤18;decide
  led:=rfl
  sep:=rfl
  jus:=rfl
  bla:=rfl
  siz:=by
   show((picT l).length:Int)=sizeV (shT l);unfold sizeV;rw[if_neg (show¬(shT l).Category=0 from fun e=>by have e:zfi l=0:=e;omega),if_pos (show(shT l).Category≠4 from fun e=>by have e:zfi l=4:=e;omega)];unfold szN;show((picT l).length:Int)=(((picT l).length-(picT l).count 86:Nat):Int)
   rw[h86,Nat.sub_zero]}
end Go.Proofs.C06
end
