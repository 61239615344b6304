/-
  A part of the proof of the laws.
-/
import Derived.Test.YtodebhabandljaaGreatDoorAm9
namespace Go.Am
open Go Go.RowKit Go.Vc
section
variable {P : Program} {L : Lk} {R : Ro}
theorem KZ{k:IntKind}:∀{cs:List AV}{vs:List Value}{l:List Int},YT k cs=some (true,l)->RelL L R cs vs->vs=l.map (Value.int k)/\∀n∈l,inK k n
 |[],vs,l,h,j=>by simp only[YT,Option.some.injEq,Prod.mk.injEq]at h;obtain⟨-,rfl⟩:=h;cases j;exact⟨rfl,by simp⟩
 |v::r,vs,l,h,⟨u,us,h1,h2,h3⟩=>by
  cases v with
  |int O n=>
   simp only[YT]at h;split at h
   ·rename_i c J hk j;simp only[Option.some.injEq,Prod.mk.injEq,kY]at h;obtain⟨⟨H,rfl⟩,rfl⟩:=h;obtain⟨B,I⟩:=KZ j h3;simp only[kEq,decide_eq_true_eq]at hk;subst hk;simp only[Rel]at h2;refine⟨by rw[h1,h2,B];rfl,fun m y=>?_⟩;rcases mS.1 y with rfl|y
    ·exact ql.1 H
    ·exact I m y
   ·cases h
  |_=>simp[YT]at h
theorem zf0:∀{cs:List AV}{vs:List Value}{l:List uAS},XX cs=some l->RelL L R cs vs->vs=l.map fun s=>Value.string (bs s)
 |[],vs,l,h,j=>by simp only[XX,Option.some.injEq]at h;subst h;cases j;rfl
 |v::r,vs,l,h,⟨u,us,h1,h2,h3⟩=>by
  cases v with
  |str s=>
   simp only[XX]at h;split at h
   ·rename_i y j;simp only[Option.some.injEq]at h;subst h;simp only[Rel]at h2;rw[h1,h2,zf0 j h3];rfl
   ·cases h
  |_=>simp[XX]at h
theorem zgo{n:Int}(h:inK .u8 n):((toByte n).toNat:Int)=n:=by
 obtain⟨y,j⟩:=h;simp only[IntKind.min,IntKind.max,IntKind.signed,IntKind.bits]at y j;unfold toByte;have H:n.toNat<256:=by simp at j;omega
 have B:0<=n:=by simpa using y
 simp only[UInt8.toNat_ofNat'];omega
theorem y8:∀{cs:List AV}{vs:List Value},cs.all zL=true->RelL L R cs vs->RelR L R 1 cs vs
 |[],vs,_,h=>h
 |v::r,vs,ho,⟨u,us,h1,h2,h3⟩=>by
  simp only[List.all_cons,kY]at ho;have j:=y8 ho.2 h3;cases v with
  |agg cs=>exact absurd ho.1 (by simp[zL])
  |_=>exact⟨u,us,h1,rfl,ho.1,h2,j⟩
theorem YV{z:Nat}:∀{len:Nat}{cs:List AV}{vs:List Value},cs.length=len*z->RelL L R cs vs->RelR L R z (YJ z len cs) vs
 |0,cs,vs,hl,h=>by have:cs=[]:=uAE (by simpa using hl);subst this;exact h
 |len+1,cs,vs,hl,h=>by rw[nU]at hl;refine⟨vs.take z,vs.drop z,(mO z vs).symm,by simp;omega,h.take z,YV (by simp;omega) (h.drop z)⟩
theorem YI(z:Nat):∀(len:Nat)(cs:List AV),(YJ z len cs).length=len
 |0,_=>rfl
 |len+1,cs=>by simp[YJ,YI z len]
theorem yv:∀(a b:List AV),idsL (a++b)=idsL a++idsL b
 |[],_=>rfl
 |v::r,b=>by simp[idsL,yv r b]
theorem YH(z:Nat):∀(len:Nat)(cs:List AV),idsL cs=[]->idsL (YJ z len cs)=[]
 |0,_,_=>rfl
 |len+1,cs,h=>by rw[<-mO z cs,yv,uAd]at h;simp[YJ,idsL,idsV,h.1,YH z len _ h.2]
theorem ztW{elem:TypeId}{len z:Nat}{cs:List AV}{vs:List Value}{o:AO}(h:ztX P elem len cs=some (true,o))(B:RelL L R cs vs)(U:zH P elem=some z){w:World}{b:Nat}
  (hb:w.heap[b]? =some (.cells vs.toArray elem (0,0))):ObjRel L R ⟨b,false,len,[b]⟩ o w/\lenO o=len/\vs.length=len*z:=by
 have row:∀{z k:Nat}{C:List Value->Prop},C vs->vs.length=k*z->k=len->RowAt w ⟨b,false,len,[b]⟩ elem z k C:=by intro z k C H O y;subst y;exact .inr ⟨rfl,rfl,mA _,vs,[],(0,0),by rw[mM];exact hb,H,O,by simpa using Nat.le_of_eq O.symm,mA _,fun j _ h=>by simp at h⟩
 unfold ztX at h;split at h
 ·rename_i hu Z;rw[Z]at U;cases U;split at h
  ·rename_i c l ha I;simp only[Option.some.injEq,Prod.mk.injEq]at h;obtain⟨rfl,rfl⟩:=h;obtain⟨H,O⟩:=KZ ha B;have I:=kV I;have J:l.length=len:=by rw[<-I,B.length,H];simp
   simp only[ObjRel,lenO,mE];refine⟨row ?_ (by rw[H];simp) J,J,by rw[H];simp[J]⟩;rw[H,List.map_map];exact uAk fun n hn=>by simp only[Function.comp,u8V,zgo (O n hn)]
  ·cases h
 ·rename_i k hk hu Z;rw[Z]at U;cases U;split at h
  ·rename_i c l ha I;simp only[Option.some.injEq,Prod.mk.injEq]at h;obtain⟨rfl,rfl⟩:=h;obtain⟨H,O⟩:=KZ ha B;have I:=kV I;have J:l.length=len:=by rw[<-I,B.length,H];simp
   simp only[ObjRel,lenO];exact⟨row H (by rw[H];simp) J,J,by rw[H];simp[J]⟩
  ·cases h
 ·rename_i hu Z;rw[Z]at U;cases U;split at h
  ·rename_i l ha I;simp only[Option.some.injEq,Prod.mk.injEq,true_and]at h;subst h;have H:=zf0 ha B;have I:=kV I;have J:l.length=len:=by rw[<-I,B.length,H];simp
   simp only[ObjRel,lenO];exact⟨row H (by rw[H];simp) J,J,by rw[H];simp[J]⟩
  ·cases h
 ·rename_i fs m hu Z;rw[Z]at U;cases U;split at h
  ·rename_i H O y;simp only[Option.some.injEq,Prod.mk.injEq,true_and]at h;subst h;have y:=kV y;simp only[List.isEmpty_iff]at H;simp only[ObjRel,lenO,YI];exact⟨⟨YH _ _ _ H,row (YV y B) (by rw[<-B.length,y]) rfl⟩,trivial,by rw[<-B.length,y]⟩
  ·rename_i O y _;simp only[Option.some.injEq,Prod.mk.injEq,true_and]at h;subst h;have y:=kV y;simp only[ObjRel,lenO];exact⟨row B (by rw[<-B.length,y]) rfl,trivial,by rw[<-B.length,y]⟩
  ·cases h
 ·rename_i hu Z;rw[Z]at U;cases U;split at h
  ·rename_i H O y;simp only[Option.some.injEq,Prod.mk.injEq,true_and]at h;subst h;have y:=kV y;simp only[List.isEmpty_iff]at H;simp only[ObjRel,lenO];exact⟨⟨H,row (y8 O B) (by rw[<-B.length,nC]) y⟩,y,by rw[<-B.length,y,nC]⟩
  ·cases h
 ·rename_i hu Z;rw[Z]at U;cases U;split at h
  ·rename_i H O y;simp only[Option.some.injEq,Prod.mk.injEq,true_and]at h;subst h;have y:=kV y;simp only[List.isEmpty_iff]at H;simp only[ObjRel,lenO];exact⟨⟨H,row (y8 O B) (by rw[<-B.length,nC]) y⟩,y,by rw[<-B.length,y,nC]⟩
  ·cases h
 ·rename_i hu Z;rw[Z]at U;cases U;split at h
  ·rename_i H O y;simp only[Option.some.injEq,Prod.mk.injEq,true_and]at h;subst h;have y:=kV y;simp only[List.isEmpty_iff]at H;simp only[ObjRel,lenO];exact⟨⟨H,row (y8 O B) (by rw[<-B.length,nC]) y⟩,y,by rw[<-B.length,y,nC]⟩
  ·rename_i O y _;simp only[Option.some.injEq,Prod.mk.injEq,true_and]at h;subst h;have y:=kV y;simp only[ObjRel,lenO];exact⟨row B (by rw[<-B.length,y,nC]) rfl,trivial,by rw[<-B.length,y,nC]⟩
  ·cases h
 ·rename_i hu Z;rw[Z]at U;cases U;split at h
  ·rename_i H O y;simp only[Option.some.injEq,Prod.mk.injEq,true_and]at h;subst h;have y:=kV y;simp only[List.isEmpty_iff]at H;simp only[ObjRel,lenO];exact⟨⟨H,row (y8 O B) (by rw[<-B.length,nC]) y⟩,y,by rw[<-B.length,y,nC]⟩
  ·rename_i O y _;simp only[Option.some.injEq,Prod.mk.injEq,true_and]at h;subst h;have y:=kV y;simp only[ObjRel,lenO];exact⟨row B (by rw[<-B.length,y,nC]) rfl,trivial,by rw[<-B.length,y,nC]⟩
  ·cases h
 ·rename_i hu Z;rw[Z]at U;cases U;split at h
  ·rename_i H O y;simp only[Option.some.injEq,Prod.mk.injEq,true_and]at h;subst h;have y:=kV y;simp only[List.isEmpty_iff]at H;simp only[ObjRel,lenO];exact⟨⟨H,row (y8 O B) (by rw[<-B.length,nC]) y⟩,y,by rw[<-B.length,y,nC]⟩
  ·rename_i O y _;simp only[Option.some.injEq,Prod.mk.injEq,true_and]at h;subst h;have y:=kV y;simp only[ObjRel,lenO];exact⟨row B (by rw[<-B.length,y,nC]) rfl,trivial,by rw[<-B.length,y,nC]⟩
  ·cases h
 ·rename_i m hu Z;rw[Z]at U;cases U;split at h
  ·rename_i H O y;simp only[Option.some.injEq,Prod.mk.injEq,true_and]at h;subst h;have y:=kV y;simp only[List.isEmpty_iff]at H;simp only[ObjRel,lenO,YI];exact⟨⟨YH _ _ _ H,row (YV y B) (by rw[<-B.length,y]) rfl⟩,trivial,by rw[<-B.length,y]⟩
  ·rename_i O y _;simp only[Option.some.injEq,Prod.mk.injEq,true_and]at h;subst h;have y:=kV y;simp only[ObjRel,lenO];exact⟨row B (by rw[<-B.length,y]) rfl,trivial,by rw[<-B.length,y]⟩
  ·cases h
 ·cases h
def qD:Nat->List Value->List Value
 |0,_=>[]
 |n+1,cs=>cs++qD n cs
theorem zcm{z:List AV}{vs:List Value}(h:RelL L R z vs):∀n,RelL L R (zyk n z) (qD n vs)
 |0=>rfl
 |n+1=>h.append (zcm h n)
theorem qf(z:List Value):∀n,(qD n z).length=n*z.length
 |0=>by simp[qD]
 |n+1=>by simp[qD,qf z n,Nat.succ_mul,Nat.add_comm]
theorem zks(z:List Value)(y:0<z.length):∀(n i:Nat),i<n*z.length->(qD n z)[i]? =z[i%z.length]?
 |0,i,h=>by simp at h
 |n+1,i,h=>by
  rw[qD];by_cases j:i<z.length
  ·rw[mN j,uAF j]
  ·rw[nU]at h;rw[nD (by omega),zks z y n (i-z.length) (by omega)];have e:i%z.length=(i-z.length)%z.length:=Nat.mod_eq_sub_mod (by omega);rw[e]
theorem zjT{z:List Value}{len n:Nat}(y:z.length=n):
  ((Array.range (len*n)).map ((if Nat.beq (len*n) 0 then #[]else z.toArray)[· % (if Nat.beq (len*n) 0 then(#[]:Array Value)else z.toArray).size]!))=(qD len z).toArray:=by
 apply nP;by_cases B:len*n=0
 ·have J:(qD len z)=[]:=uAE (by rw[qf,y,B]);rw[J,B];simp
 ·have H:Nat.beq (len*n) 0=false:=by
   cases hb:Nat.beq (len*n) 0 with
   |false=>rfl
   |true=>exact absurd (kV hb) B
  simp only[H,mR,if_false];have j:0<z.length:=by rw[y];rcases Nat.eq_zero_or_pos n with h|h;(subst h;simp at B);exact h
  apply uAI;intro i;by_cases I:i<len*n
  ·rw[Array.toList_map,mX];have U:(Array.range (len*n)).toList[i]? =some i:=by simp[I]
   rw[U,zks z j len i (by rw[y];exact I)];have O:i%z.length<z.length:=Nat.mod_lt _ j;simp[O]
  ·rw[uAL (by simp;omega),uAL (by rw[qf,y];omega)]
theorem zny{t:TypeId}{len:Nat}{y:List (Nat×AV)}{o:AO}{parts':Array (Nat×Value)}(h:zjA P t len y=some (true,o))(h1:y.map (·.1)=parts'.toList.map (·.1))
  (h2:RelL L R (y.map (·.2)) (parts'.toList.map (·.2))) (w:World):
  ∃elem vs,(Instr.buildSlice t len parts').run P w=.ok (.slice (some ⟨w.heap.size,0,none⟩) len len) (w.alloc (.cells vs elem (0,0)))/\
   ∀L' R',RelL L' R' (y.map (·.2)) (parts'.toList.map (·.2))->ObjRel L' R' ⟨w.heap.size,false,len,[w.heap.size]⟩ o (w.alloc (.cells vs elem (0,0)))/\lenO o=len:=by
 unfold zjA at h;split at h
 ·rename_i elem hu;split at h
  ·rename_i n z hs hz;split at h
   ·rename_i cs hle O hf;have hle:=mI hle;have O:=kV O;obtain⟨zv,hzc,hzr⟩:=Qb (L:=L) (R:=R) hz;have hzn:zv.length=n:=by rw[<-hzr.length,O]
    obtain⟨cells,j,hcells⟩:=W8 (cs:=(qD len zv).toArray) hf (by simpa using zcm hzr len) h1 h2;obtain⟨zz,hzz,J⟩:=zgy (W:=w) hzc;have hzz':zz.cells=zv.toArray:=by apply nP;simpa using hzz
    refine⟨elem,cells,?_,fun L' R' hr'=>?_⟩
    ·have Z:¬len*n>2^24:=by omega
     rw[<-zjT hzn]at j;simp only[Instr.buildSlice,Sem.run_bind,run_underlying hu,Result.andThen_ok,ji hs,Z,if_false];by_cases h0:len*n=0
     ·have U:Nat.beq (len*n) 0=true:=by rw[h0];rfl
      simp only[U,if_true]at j;rw[if_pos h0];simp only[pure_bind,j];rfl
     ·have U:Nat.beq (len*n) 0=false:=by
       cases hb:Nat.beq (len*n) 0 with
       |false=>rfl
       |true=>exact absurd (kV hb) h0
      simp only[U,mR,if_false]at j;rw[if_neg h0,Sem.run_bind,J,Result.andThen_ok,hzz'];simp only[pure_bind,j];rfl
    ·obtain⟨zv',I,hzr'⟩:=Qb (L:=L') (R:=R') hz;rw[hzc]at I;cases I;obtain⟨cells',B,H⟩:=W8 (cs:=(qD len zv).toArray) hf (by simpa using zcm hzr' len) h1 hr';rw[j]at B;cases B;have hnew:(w.alloc (.cells cells elem (0,0))).heap[w.heap.size]? =some (.cells cells elem (0,0)):=by show(w.heap.push _)[w.heap.size]? =_;simp
     obtain⟨g1,g2,_⟩:=ztW (b:=w.heap.size) h H hs (by rw[Array.toArray_toList];exact hnew);exact⟨g1,g2⟩
   ·cases h
  ·cases h
 ·cases h
end
end Go.Am
