/-
  A part of the proof of the laws.
-/
import Derived.Test.YtannhfbidakffaaGreatDoorAm9
namespace Go.Am
open Go Go.RowKit Go.Vc
section
variable {P : Program} {L : Lk} {R : Ro}
theorem zbM{k:IntKind}:∀{cs:List AV}{vs:List Value}{l:List Int},KB k cs=some (true,l)->RelL L R cs vs->vs=l.map (Value.int k)/\∀n∈l,inK k n
 |[],vs,l,h,j=>by simp only[KB,Option.some.injEq,Prod.mk.injEq]at h;obtain⟨-,rfl⟩:=h;cases j;exact⟨rfl,sI⟩
 |v::r,vs,l,h,⟨u,us,h1,h2,h3⟩=>by
  cases v with
  |int O n=>
   simp only[KB]at h;split at h
   ·rename_i c S hk j;simp only[Option.some.injEq,Prod.mk.injEq,mF]at h;obtain⟨⟨J,rfl⟩,rfl⟩:=h;obtain⟨I,H⟩:=zbM j h3;simp only[kEq,decide_eq_true_eq]at hk;subst hk;simp only[Rel]at h2;refine⟨by rw[h1,h2,I];rfl,fun m B=>?_⟩;rcases nB.1 B with rfl|B
    ·exact yq.1 J
    ·exact H m B
   ·cases h
  |_=>simp[KB]at h
theorem ziR:∀{cs:List AV}{vs:List Value}{l:List uAU},zah cs=some l->RelL L R cs vs->vs=l.map fun s=>Value.string (bs s)
 |[],vs,l,h,j=>by simp only[zah,Option.some.injEq]at h;subst h;cases j;rfl
 |v::r,vs,l,h,⟨u,us,h1,h2,h3⟩=>by
  cases v with
  |str s=>
   simp only[zah]at h;split at h
   ·rename_i B j;simp only[Option.some.injEq]at h;subst h;simp only[Rel]at h2;rw[h1,h2,ziR j h3];rfl
   ·cases h
  |_=>simp[zah]at h
theorem zjN{n:Int}(h:inK .u8 n):((toByte n).toNat:Int)=n:=by
 obtain⟨j,B⟩:=h;simp only[IntKind.min,IntKind.max,IntKind.signed,IntKind.bits]at j B;unfold toByte;have H:n.toNat<256:=by simp at B;omega
 have I:0<=n:=by simpa using j
 simp only[UInt8.toNat_ofNat'];omega
theorem qS:∀{cs:List AV}{vs:List Value},cs.all jb=true->RelL L R cs vs->RelR L R 1 cs vs
 |[],vs,_,h=>h
 |v::r,vs,ho,⟨u,us,h1,h2,h3⟩=>by
  simp only[List.all_cons,mF]at ho;have j:=qS ho.2 h3;cases v with
  |agg cs=>exact absurd ho.1 (by simp[jb])
  |_=>exact⟨u,us,h1,rfl,ho.1,h2,j⟩
theorem KC{z:Nat}:∀{len:Nat}{cs:List AV}{vs:List Value},cs.length=len*z->RelL L R cs vs->RelR L R z (Kh z len cs) vs
 |0,cs,vs,hl,h=>by have:cs=[]:=uAv (by simpa using hl);subst this;exact h
 |len+1,cs,vs,hl,h=>by rw[uAD]at hl;refine⟨vs.take z,vs.drop z,(mW z vs).symm,by simp;omega,h.take z,KC (by simp;omega) (h.drop z)⟩
theorem Kg(z:Nat):∀(len:Nat)(cs:List AV),(Kh z len cs).length=len
 |0,_=>rfl
 |len+1,cs=>by simp[Kh,Kg z len]
theorem yO:∀(a b:List AV),idsL (a++b)=idsL a++idsL b
 |[],_=>rfl
 |v::r,b=>by simp[idsL,yO r b]
theorem Kf(z:Nat):∀(len:Nat)(cs:List AV),idsL cs=[]->idsL (Kh z len cs)=[]
 |0,_,_=>rfl
 |len+1,cs,h=>by rw[<-mW z cs,yO,uAg]at h;simp[Kh,idsL,idsV,h.1,Kf z len _ h.2]
theorem zxR{elem:TypeId}{len z:Nat}{cs:List AV}{vs:List Value}{o:AO}(h:zxS P elem len cs=some (true,o))(H:RelL L R cs vs)(U:zK P elem=some z){w:World}{b:Nat}
  (hb:w.heap[b]? =some (.cells vs.toArray elem (0,0))):ObjRel L R ⟨b,false,len,[b]⟩ o w/\lenO o=len/\vs.length=len*z:=by
 have row:∀{z k:Nat}{C:List Value->Prop},C vs->vs.length=k*z->k=len->RowAt w ⟨b,false,len,[b]⟩ elem z k C:=by intro z k C I S B;subst B;exact .inr ⟨rfl,rfl,mH _,vs,[],(0,0),by rw[nM];exact hb,I,S,by simpa using Nat.le_of_eq S.symm,mH _,fun j _ h=>by simp at h⟩
 unfold zxS at h;split at h
 ·rename_i Z Y;rw[Y]at U;cases U;split at h
  ·rename_i c l ha J;simp only[Option.some.injEq,Prod.mk.injEq]at h;obtain⟨rfl,rfl⟩:=h;obtain⟨I,S⟩:=zbM ha H;have J:=mE J;have O:l.length=len:=by rw[<-J,H.length,I];simp
   simp only[ObjRel,lenO,nN];refine⟨row ?_ (by rw[I];simp) O,O,by rw[I];simp[O]⟩;rw[I,List.map_map];exact uAk fun n hn=>by simp only[Function.comp,u8V,zjN (S n hn)]
  ·cases h
 ·rename_i k hk Z Y;rw[Y]at U;cases U;split at h
  ·rename_i c l ha J;simp only[Option.some.injEq,Prod.mk.injEq]at h;obtain⟨rfl,rfl⟩:=h;obtain⟨I,S⟩:=zbM ha H;have J:=mE J;have O:l.length=len:=by rw[<-J,H.length,I];simp
   simp only[ObjRel,lenO];exact⟨row I (by rw[I];simp) O,O,by rw[I];simp[O]⟩
  ·cases h
 ·rename_i Z Y;rw[Y]at U;cases U;split at h
  ·rename_i l ha J;simp only[Option.some.injEq,Prod.mk.injEq,true_and]at h;subst h;have I:=ziR ha H;have J:=mE J;have O:l.length=len:=by rw[<-J,H.length,I];simp
   simp only[ObjRel,lenO];exact⟨row I (by rw[I];simp) O,O,by rw[I];simp[O]⟩
  ·cases h
 ·rename_i fs m Z Y;rw[Y]at U;cases U;split at h
  ·rename_i I S B;simp only[Option.some.injEq,Prod.mk.injEq,true_and]at h;subst h;have B:=mE B;simp only[List.isEmpty_iff]at I;simp only[ObjRel,lenO,Kg];exact⟨⟨Kf _ _ _ I,row (KC B H) (by rw[<-H.length,B]) rfl⟩,trivial,by rw[<-H.length,B]⟩
  ·rename_i S B _;simp only[Option.some.injEq,Prod.mk.injEq,true_and]at h;subst h;have B:=mE B;simp only[ObjRel,lenO];exact⟨row H (by rw[<-H.length,B]) rfl,trivial,by rw[<-H.length,B]⟩
  ·cases h
 ·rename_i Z Y;rw[Y]at U;cases U;split at h
  ·rename_i I S B;simp only[Option.some.injEq,Prod.mk.injEq,true_and]at h;subst h;have B:=mE B;simp only[List.isEmpty_iff]at I;simp only[ObjRel,lenO];exact⟨⟨I,row (qS S H) (by rw[<-H.length,mX]) B⟩,B,by rw[<-H.length,B,mX]⟩
  ·cases h
 ·rename_i Z Y;rw[Y]at U;cases U;split at h
  ·rename_i I S B;simp only[Option.some.injEq,Prod.mk.injEq,true_and]at h;subst h;have B:=mE B;simp only[List.isEmpty_iff]at I;simp only[ObjRel,lenO];exact⟨⟨I,row (qS S H) (by rw[<-H.length,mX]) B⟩,B,by rw[<-H.length,B,mX]⟩
  ·cases h
 ·rename_i Z Y;rw[Y]at U;cases U;split at h
  ·rename_i I S B;simp only[Option.some.injEq,Prod.mk.injEq,true_and]at h;subst h;have B:=mE B;simp only[List.isEmpty_iff]at I;simp only[ObjRel,lenO];exact⟨⟨I,row (qS S H) (by rw[<-H.length,mX]) B⟩,B,by rw[<-H.length,B,mX]⟩
  ·rename_i S B _;simp only[Option.some.injEq,Prod.mk.injEq,true_and]at h;subst h;have B:=mE B;simp only[ObjRel,lenO];exact⟨row H (by rw[<-H.length,B,mX]) rfl,trivial,by rw[<-H.length,B,mX]⟩
  ·cases h
 ·rename_i Z Y;rw[Y]at U;cases U;split at h
  ·rename_i I S B;simp only[Option.some.injEq,Prod.mk.injEq,true_and]at h;subst h;have B:=mE B;simp only[List.isEmpty_iff]at I;simp only[ObjRel,lenO];exact⟨⟨I,row (qS S H) (by rw[<-H.length,mX]) B⟩,B,by rw[<-H.length,B,mX]⟩
  ·rename_i S B _;simp only[Option.some.injEq,Prod.mk.injEq,true_and]at h;subst h;have B:=mE B;simp only[ObjRel,lenO];exact⟨row H (by rw[<-H.length,B,mX]) rfl,trivial,by rw[<-H.length,B,mX]⟩
  ·cases h
 ·rename_i Z Y;rw[Y]at U;cases U;split at h
  ·rename_i I S B;simp only[Option.some.injEq,Prod.mk.injEq,true_and]at h;subst h;have B:=mE B;simp only[List.isEmpty_iff]at I;simp only[ObjRel,lenO];exact⟨⟨I,row (qS S H) (by rw[<-H.length,mX]) B⟩,B,by rw[<-H.length,B,mX]⟩
  ·rename_i S B _;simp only[Option.some.injEq,Prod.mk.injEq,true_and]at h;subst h;have B:=mE B;simp only[ObjRel,lenO];exact⟨row H (by rw[<-H.length,B,mX]) rfl,trivial,by rw[<-H.length,B,mX]⟩
  ·cases h
 ·rename_i m Z Y;rw[Y]at U;cases U;split at h
  ·rename_i I S B;simp only[Option.some.injEq,Prod.mk.injEq,true_and]at h;subst h;have B:=mE B;simp only[List.isEmpty_iff]at I;simp only[ObjRel,lenO,Kg];exact⟨⟨Kf _ _ _ I,row (KC B H) (by rw[<-H.length,B]) rfl⟩,trivial,by rw[<-H.length,B]⟩
  ·rename_i S B _;simp only[Option.some.injEq,Prod.mk.injEq,true_and]at h;subst h;have B:=mE B;simp only[ObjRel,lenO];exact⟨row H (by rw[<-H.length,B]) rfl,trivial,by rw[<-H.length,B]⟩
  ·cases h
 ·cases h
def Yn:Nat->List Value->List Value
 |0,_=>[]
 |n+1,cs=>cs++Yn n cs
theorem zfC{z:List AV}{vs:List Value}(h:RelL L R z vs):∀n,RelL L R (zBq n z) (Yn n vs)
 |0=>rfl
 |n+1=>h.append (zfC h n)
theorem QO(z:List Value):∀n,(Yn n z).length=n*z.length
 |0=>by simp[Yn]
 |n+1=>by simp[Yn,QO z n,Nat.succ_mul,Nat.add_comm]
theorem zog(z:List Value)(j:0<z.length):∀(n i:Nat),i<n*z.length->(Yn n z)[i]? =z[i%z.length]?
 |0,i,h=>by simp at h
 |n+1,i,h=>by
  rw[Yn];by_cases hi:i<z.length
  ·rw[nH hi,nV hi]
  ·rw[uAD]at h;rw[nJ oM,zog z j n (i-z.length) oM];have e:i%z.length=(i-z.length)%z.length:=Nat.mod_eq_sub_mod oM;rw[e]
theorem znq{z:List Value}{len n:Nat}(B:z.length=n):
  ((Array.range (len*n)).map ((if Nat.beq (len*n) 0 then #[]else z.toArray)[· % (if Nat.beq (len*n) 0 then(#[]:Array Value)else z.toArray).size]!))=(Yn len z).toArray:=by
 apply nW;by_cases H:len*n=0
 ·have J:(Yn len z)=[]:=uAv (by rw[QO,B,H]);rw[J,H];simp
 ·have I:Nat.beq (len*n) 0=false:=by
   cases hb:Nat.beq (len*n) 0 with
   |false=>rfl
   |true=>exact absurd (mE hb) H
  simp only[I,nA,if_false];have j:0<z.length:=by rw[B];rcases Nat.eq_zero_or_pos n with h|h;(subst h;simp at H);exact h
  apply uAN;intro i;by_cases hi:i<len*n
  ·rw[Array.toList_map,nK];have O:(Array.range (len*n)).toList[i]? =some i:=by simp[hi]
   rw[O,zog z j len i (by rw[B];exact hi)];have S:i%z.length<z.length:=Nat.mod_lt _ j;simp[S]
  ·rw[uAo (by simp;omega),uAo (by rw[QO,B];omega)]
theorem zsl{t:TypeId}{len:Nat}{B:List (Nat×AV)}{o:AO}{parts':Array (Nat×Value)}(h:znd P t len B=some (true,o))(h1:B.map (·.1)=parts'.toList.map (·.1))
  (h2:RelL L R (B.map (·.2)) (parts'.toList.map (·.2))) (w:World):
  ∃elem vs,(Instr.buildSlice t len parts').run P w=.ok (.slice (some ⟨w.heap.size,0,none⟩) len len) (w.alloc (.cells vs elem (0,0)))/\
   ∀L' R',RelL L' R' (B.map (·.2)) (parts'.toList.map (·.2))->ObjRel L' R' ⟨w.heap.size,false,len,[w.heap.size]⟩ o (w.alloc (.cells vs elem (0,0)))/\lenO o=len:=by
 unfold znd at h;split at h
 ·rename_i elem hu;split at h
  ·rename_i n z hs hz;split at h
   ·rename_i cs hle O hf;have hle:=mQ hle;have O:=mE O;obtain⟨zv,hzc,hzr⟩:=KY (L:=L) (R:=R) hz;have hzn:zv.length=n:=by rw[<-hzr.length,O]
    obtain⟨cells,j,hcells⟩:=zcL (cs:=(Yn len zv).toArray) hf (by simpa using zfC hzr len) h1 h2;obtain⟨zz,hzz,S⟩:=zjY (W:=w) hzc;have Y:zz.cells=zv.toArray:=by apply nW;simpa using hzz
    refine⟨elem,cells,?_,fun L' R' hr'=>?_⟩
    ·have hle':¬len*n>2^24:=oM
     rw[<-znq hzn]at j;simp only[Instr.buildSlice,Sem.run_bind,run_underlying hu,Result.andThen_ok,jx hs,hle',if_false];by_cases h0:len*n=0
     ·have U:Nat.beq (len*n) 0=true:=by rw[h0];rfl
      simp only[U,if_true]at j;rw[if_pos h0];simp only[pure_bind,j];rfl
     ·have U:Nat.beq (len*n) 0=false:=by
       cases hb:Nat.beq (len*n) 0 with
       |false=>rfl
       |true=>exact absurd (mE hb) h0
      simp only[U,nA,if_false]at j;rw[if_neg h0,Sem.run_bind,S,Result.andThen_ok,Y];simp only[pure_bind,j];rfl
    ·obtain⟨zv',J,hzr'⟩:=KY (L:=L') (R:=R') hz;rw[hzc]at J;cases J;obtain⟨cells',H,I⟩:=zcL (cs:=(Yn len zv).toArray) hf (by simpa using zfC hzr' len) h1 hr';rw[j]at H;cases H;have Z:(w.alloc (.cells cells elem (0,0))).heap[w.heap.size]? =some (.cells cells elem (0,0)):=by show(w.heap.push _)[w.heap.size]? =_;simp
     obtain⟨g1,g2,_⟩:=zxR (b:=w.heap.size) h I hs (by rw[Array.toArray_toList];exact Z);exact⟨g1,g2⟩
   ·cases h
  ·cases h
 ·cases h
end
end Go.Am
