/-
  A part of the proof of the laws.
-/
import Derived.Test.YtckmndepnihanaaGreatDoorAm9
namespace Go.Am
open Go Go.RowKit Go.Vc
section
variable {P : Program} {L : Lk} {R : Ro}
theorem XV{k:IntKind}:∀{cs:List AV}{vs:List Value}{l:List Int},Yl k cs=some (true,l)→RelL L R cs vs→vs=l.map (Value.int k)∧∀n∈l,inK k n
 |[],vs,l,h,hr=>by simp only[Yl,Option.some.injEq,Prod.mk.injEq]at h;obtain⟨-,rfl⟩:=h;cases hr;exact⟨rfl,by simp⟩
 |v::r,vs,l,h,⟨u,us,h1,h2,h3⟩=>by
  cases v with
  |int k' n=>
   simp only[Yl]at h;split at h
   ·rename_i c l' hk hr;simp only[Option.some.injEq,Prod.mk.injEq,Bool.and_eq_true]at h;obtain⟨⟨h4,rfl⟩,rfl⟩:=h;obtain⟨h5,h6⟩:=XV hr h3;simp only[kEq,decide_eq_true_eq]at hk;subst hk;simp only[Rel]at h2;refine⟨by rw[h1,h2,h5];rfl,fun m hm=>?_⟩;rcases List.mem_cons.1 hm with rfl|hm
    ·exact Jq.1 h4
    ·exact h6 m hm
   ·cases h
  |_=>simp[Yl]at h
theorem zdW:∀{cs:List AV}{vs:List Value}{l:List (List UInt8)},Q6 cs=some l→RelL L R cs vs→vs=l.map fun s=>Value.string (bs s)
 |[],vs,l,h,hr=>by simp only[Q6,Option.some.injEq]at h;subst h;cases hr;rfl
 |v::r,vs,l,h,⟨u,us,h1,h2,h3⟩=>by
  cases v with
  |str s=>
   simp only[Q6]at h;split at h
   ·rename_i l' hr;simp only[Option.some.injEq]at h;subst h;simp only[Rel]at h2;rw[h1,h2,zdW hr h3];rfl
   ·cases h
  |_=>simp[Q6]at h
theorem zeA{n:Int}(h:inK .u8 n):((toByte n).toNat:Int)=n:=by
 obtain⟨h1,h2⟩:=h;simp only[IntKind.min,IntKind.max,IntKind.signed,IntKind.bits]at h1 h2;unfold toByte;have h3:n.toNat<256:=by simp at h2;omega
 have h0:0≤n:=by simpa using h1
 simp only[UInt8.toNat_ofNat'];omega
theorem yW:∀{cs:List AV}{vs:List Value},cs.all zJ=true→RelL L R cs vs→RelR L R 1 cs vs
 |[],vs,_,h=>h
 |v::r,vs,ho,⟨u,us,h1,h2,h3⟩=>by
  simp only[List.all_cons,Bool.and_eq_true]at ho;have ih:=yW ho.2 h3;cases v with
  |agg cs=>exact absurd ho.1 (by simp[zJ])
  |_=>exact⟨u,us,h1,rfl,ho.1,h2,ih⟩
theorem Ym{z:Nat}:∀{len:Nat}{cs:List AV}{vs:List Value},cs.length=len*z→RelL L R cs vs→RelR L R z (Yc z len cs) vs
 |0,cs,vs,hl,h=>by have:cs=[]:=List.eq_nil_of_length_eq_zero (by simpa using hl);subst this;exact h
 |len+1,cs,vs,hl,h=>by rw[Nat.succ_mul]at hl;refine⟨vs.take z,vs.drop z,(List.take_append_drop z vs).symm,by simp;omega,h.take z,Ym (by simp;omega) (h.drop z)⟩
theorem Yb(z:Nat):∀(len:Nat)(cs:List AV),(Yc z len cs).length=len
 |0,_=>rfl
 |len+1,cs=>by simp[Yc,Yb z len]
theorem yn:∀(a b:List AV),idsL (a++b)=idsL a++idsL b
 |[],_=>rfl
 |v::r,b=>by simp[idsL,yn r b]
theorem Ya(z:Nat):∀(len:Nat)(cs:List AV),idsL cs=[]→idsL (Yc z len cs)=[]
 |0,_,_=>rfl
 |len+1,cs,h=>by rw[←List.take_append_drop z cs,yn,List.append_eq_nil_iff]at h;simp[Yc,idsL,idsV,h.1,Ya z len _ h.2]
theorem zrc{elem:TypeId}{len z:Nat}{cs:List AV}{vs:List Value}{o:AO}(h:zrd P elem len cs=some (true,o))(hr:RelL L R cs vs)(hz:zx P elem=some z){w:World}{b:Nat}
  (hb:w.heap[b]? =some (.cells vs.toArray elem (0,0))):ObjRel L R ⟨b,false,len,[b]⟩ o w∧lenO o=len∧vs.length=len*z:=by
 have row:∀{z k:Nat}{C:List Value→Prop},C vs→vs.length=k*z→k=len→RowAt w ⟨b,false,len,[b]⟩ elem z k C:=by intro z k C h1 h2 h3;subst h3;exact .inr ⟨rfl,rfl,Nat.le_refl _,vs,[],(0,0),by rw[List.append_nil];exact hb,h1,h2,by simpa using Nat.le_of_eq h2.symm,Nat.le_refl _,fun j _ h=>by simp at h⟩
 unfold zrd at h;split at h
 ·rename_i hu hs;rw[hs]at hz;cases hz;split at h
  ·rename_i c l ha hb';simp only[Option.some.injEq,Prod.mk.injEq]at h;obtain⟨rfl,rfl⟩:=h;obtain⟨h1,h2⟩:=XV ha hr;have hb':=Nat.eq_of_beq_eq_true hb';have hll:l.length=len:=by rw[←hb',hr.length,h1];simp
   simp only[ObjRel,lenO,List.length_map];refine⟨row ?_ (by rw[h1];simp) hll,hll,by rw[h1];simp[hll]⟩;rw[h1,List.map_map];exact List.map_congr_left fun n hn=>by simp only[Function.comp,u8V,zeA (h2 n hn)]
  ·cases h
 ·rename_i k hk hu hs;rw[hs]at hz;cases hz;split at h
  ·rename_i c l ha hb';simp only[Option.some.injEq,Prod.mk.injEq]at h;obtain⟨rfl,rfl⟩:=h;obtain⟨h1,h2⟩:=XV ha hr;have hb':=Nat.eq_of_beq_eq_true hb';have hll:l.length=len:=by rw[←hb',hr.length,h1];simp
   simp only[ObjRel,lenO];exact⟨row h1 (by rw[h1];simp) hll,hll,by rw[h1];simp[hll]⟩
  ·cases h
 ·rename_i hu hs;rw[hs]at hz;cases hz;split at h
  ·rename_i l ha hb';simp only[Option.some.injEq,Prod.mk.injEq,true_and]at h;subst h;have h1:=zdW ha hr;have hb':=Nat.eq_of_beq_eq_true hb';have hll:l.length=len:=by rw[←hb',hr.length,h1];simp
   simp only[ObjRel,lenO];exact⟨row h1 (by rw[h1];simp) hll,hll,by rw[h1];simp[hll]⟩
  ·cases h
 ·rename_i fs m hu hs;rw[hs]at hz;cases hz;split at h
  ·rename_i h1 h2 h3;simp only[Option.some.injEq,Prod.mk.injEq,true_and]at h;subst h;have h3:=Nat.eq_of_beq_eq_true h3;simp only[List.isEmpty_iff]at h1;simp only[ObjRel,lenO,Yb];exact⟨⟨Ya _ _ _ h1,row (Ym h3 hr) (by rw[←hr.length,h3]) rfl⟩,trivial,by rw[←hr.length,h3]⟩
  ·rename_i h2 h3 _;simp only[Option.some.injEq,Prod.mk.injEq,true_and]at h;subst h;have h3:=Nat.eq_of_beq_eq_true h3;simp only[ObjRel,lenO];exact⟨row hr (by rw[←hr.length,h3]) rfl,trivial,by rw[←hr.length,h3]⟩
  ·cases h
 ·rename_i hu hs;rw[hs]at hz;cases hz;split at h
  ·rename_i h1 h2 h3;simp only[Option.some.injEq,Prod.mk.injEq,true_and]at h;subst h;have h3:=Nat.eq_of_beq_eq_true h3;simp only[List.isEmpty_iff]at h1;simp only[ObjRel,lenO];exact⟨⟨h1,row (yW h2 hr) (by rw[←hr.length,Nat.mul_one]) h3⟩,h3,by rw[←hr.length,h3,Nat.mul_one]⟩
  ·cases h
 ·rename_i hu hs;rw[hs]at hz;cases hz;split at h
  ·rename_i h1 h2 h3;simp only[Option.some.injEq,Prod.mk.injEq,true_and]at h;subst h;have h3:=Nat.eq_of_beq_eq_true h3;simp only[List.isEmpty_iff]at h1;simp only[ObjRel,lenO];exact⟨⟨h1,row (yW h2 hr) (by rw[←hr.length,Nat.mul_one]) h3⟩,h3,by rw[←hr.length,h3,Nat.mul_one]⟩
  ·cases h
 ·rename_i hu hs;rw[hs]at hz;cases hz;split at h
  ·rename_i h1 h2 h3;simp only[Option.some.injEq,Prod.mk.injEq,true_and]at h;subst h;have h3:=Nat.eq_of_beq_eq_true h3;simp only[List.isEmpty_iff]at h1;simp only[ObjRel,lenO];exact⟨⟨h1,row (yW h2 hr) (by rw[←hr.length,Nat.mul_one]) h3⟩,h3,by rw[←hr.length,h3,Nat.mul_one]⟩
  ·rename_i h2 h3 _;simp only[Option.some.injEq,Prod.mk.injEq,true_and]at h;subst h;have h3:=Nat.eq_of_beq_eq_true h3;simp only[ObjRel,lenO];exact⟨row hr (by rw[←hr.length,h3,Nat.mul_one]) rfl,trivial,by rw[←hr.length,h3,Nat.mul_one]⟩
  ·cases h
 ·rename_i hu hs;rw[hs]at hz;cases hz;split at h
  ·rename_i h1 h2 h3;simp only[Option.some.injEq,Prod.mk.injEq,true_and]at h;subst h;have h3:=Nat.eq_of_beq_eq_true h3;simp only[List.isEmpty_iff]at h1;simp only[ObjRel,lenO];exact⟨⟨h1,row (yW h2 hr) (by rw[←hr.length,Nat.mul_one]) h3⟩,h3,by rw[←hr.length,h3,Nat.mul_one]⟩
  ·rename_i h2 h3 _;simp only[Option.some.injEq,Prod.mk.injEq,true_and]at h;subst h;have h3:=Nat.eq_of_beq_eq_true h3;simp only[ObjRel,lenO];exact⟨row hr (by rw[←hr.length,h3,Nat.mul_one]) rfl,trivial,by rw[←hr.length,h3,Nat.mul_one]⟩
  ·cases h
 ·rename_i hu hs;rw[hs]at hz;cases hz;split at h
  ·rename_i h1 h2 h3;simp only[Option.some.injEq,Prod.mk.injEq,true_and]at h;subst h;have h3:=Nat.eq_of_beq_eq_true h3;simp only[List.isEmpty_iff]at h1;simp only[ObjRel,lenO];exact⟨⟨h1,row (yW h2 hr) (by rw[←hr.length,Nat.mul_one]) h3⟩,h3,by rw[←hr.length,h3,Nat.mul_one]⟩
  ·rename_i h2 h3 _;simp only[Option.some.injEq,Prod.mk.injEq,true_and]at h;subst h;have h3:=Nat.eq_of_beq_eq_true h3;simp only[ObjRel,lenO];exact⟨row hr (by rw[←hr.length,h3,Nat.mul_one]) rfl,trivial,by rw[←hr.length,h3,Nat.mul_one]⟩
  ·cases h
 ·rename_i m hu hs;rw[hs]at hz;cases hz;split at h
  ·rename_i h1 h2 h3;simp only[Option.some.injEq,Prod.mk.injEq,true_and]at h;subst h;have h3:=Nat.eq_of_beq_eq_true h3;simp only[List.isEmpty_iff]at h1;simp only[ObjRel,lenO,Yb];exact⟨⟨Ya _ _ _ h1,row (Ym h3 hr) (by rw[←hr.length,h3]) rfl⟩,trivial,by rw[←hr.length,h3]⟩
  ·rename_i h2 h3 _;simp only[Option.some.injEq,Prod.mk.injEq,true_and]at h;subst h;have h3:=Nat.eq_of_beq_eq_true h3;simp only[ObjRel,lenO];exact⟨row hr (by rw[←hr.length,h3]) rfl,trivial,by rw[←hr.length,h3]⟩
  ·cases h
 ·cases h
def qm:Nat→List Value→List Value
 |0,_=>[]
 |n+1,cs=>cs++qm n cs
theorem zaR{z:List AV}{vs:List Value}(h:RelL L R z vs):∀n,RelL L R (zvj n z) (qm n vs)
 |0=>rfl
 |n+1=>h.append (zaR h n)
theorem y7(z:List Value):∀n,(qm n z).length=n*z.length
 |0=>by simp[qm]
 |n+1=>by simp[qm,y7 z n,Nat.succ_mul,Nat.add_comm]
theorem zio(z:List Value)(hz:0<z.length):∀(n i:Nat),i<n*z.length→(qm n z)[i]? =z[i%z.length]?
 |0,i,h=>by simp at h
 |n+1,i,h=>by
  rw[qm];by_cases hi:i<z.length
  ·rw[List.getElem?_append_left hi,Nat.mod_eq_of_lt hi]
  ·rw[Nat.succ_mul]at h;rw[List.getElem?_append_right (by omega),zio z hz n (i-z.length) (by omega)];have e:i%z.length=(i-z.length)%z.length:=Nat.mod_eq_sub_mod (by omega);rw[e]
theorem zhV{z:List Value}{len n:Nat}(hn:z.length=n):
  ((Array.range (len*n)).map ((if Nat.beq (len*n) 0 then #[]else z.toArray)[· % (if Nat.beq (len*n) 0 then(#[]:Array Value)else z.toArray).size]!))=(qm len z).toArray:=by
 apply Array.ext';by_cases h0:len*n=0
 ·have h1:(qm len z)=[]:=List.eq_nil_of_length_eq_zero (by rw[y7,hn,h0]);rw[h1,h0];simp
 ·have hb0:Nat.beq (len*n) 0=false:=by
   cases hb:Nat.beq (len*n) 0 with
   |false=>rfl
   |true=>exact absurd (Nat.eq_of_beq_eq_true hb) h0
  simp only[hb0,Bool.false_eq_true,if_false];have hpos:0<z.length:=by rw[hn];rcases Nat.eq_zero_or_pos n with h|h;(subst h;simp at h0);exact h
  apply List.ext_getElem?;intro i;by_cases hi:i<len*n
  ·rw[Array.toList_map,List.getElem?_map];have e1:(Array.range (len*n)).toList[i]? =some i:=by simp[hi]
   rw[e1,zio z hpos len i (by rw[hn];exact hi)];have hm:i%z.length<z.length:=Nat.mod_lt _ hpos;simp[hm]
  ·rw[List.getElem?_eq_none (by simp;omega),List.getElem?_eq_none (by rw[y7,hn];omega)]
theorem zk8{t:TypeId}{len:Nat}{parts:List (Nat×AV)}{o:AO}{parts':Array (Nat×Value)}(h:zhK P t len parts=some (true,o))(h1:parts.map (·.1)=parts'.toList.map (·.1))
  (h2:RelL L R (parts.map (·.2)) (parts'.toList.map (·.2))) (w:World):
  ∃elem vs,(Instr.buildSlice t len parts').run P w=.ok (.slice (some ⟨w.heap.size,0,none⟩) len len) (w.alloc (.cells vs elem (0,0)))∧
   ∀L' R',RelL L' R' (parts.map (·.2)) (parts'.toList.map (·.2))→ObjRel L' R' ⟨w.heap.size,false,len,[w.heap.size]⟩ o (w.alloc (.cells vs elem (0,0)))∧lenO o=len:=by
 unfold zhK at h;split at h
 ·rename_i elem hu;split at h
  ·rename_i n z hs hz;split at h
   ·rename_i cs hle hzl hf;have hle:=Nat.le_of_ble_eq_true hle;have hzl:=Nat.eq_of_beq_eq_true hzl;obtain⟨zv,hzc,hzr⟩:=YA (L:=L) (R:=R) hz;have hzn:zv.length=n:=by rw[←hzr.length,hzl]
    obtain⟨cells,hfill,hcells⟩:=VG (cs:=(qm len zv).toArray) hf (by simpa using zaR hzr len) h1 h2;obtain⟨zz,hzz,hzrun⟩:=zeH (W:=w) hzc;have hzz':zz.cells=zv.toArray:=by apply Array.ext';simpa using hzz
    refine⟨elem,cells,?_,fun L' R' hr'=>?_⟩
    ·have hle':¬len*n>2^24:=by omega
     rw[←zhV hzn]at hfill;simp only[Instr.buildSlice,Sem.run_bind,run_underlying hu,Result.andThen_ok,jf hs,hle',if_false];by_cases h0:len*n=0
     ·have hb0:Nat.beq (len*n) 0=true:=by rw[h0];rfl
      simp only[hb0,if_true]at hfill;rw[if_pos h0];simp only[pure_bind,hfill];rfl
     ·have hb0:Nat.beq (len*n) 0=false:=by
       cases hb:Nat.beq (len*n) 0 with
       |false=>rfl
       |true=>exact absurd (Nat.eq_of_beq_eq_true hb) h0
      simp only[hb0,Bool.false_eq_true,if_false]at hfill;rw[if_neg h0,Sem.run_bind,hzrun,Result.andThen_ok,hzz'];simp only[pure_bind,hfill];rfl
    ·obtain⟨zv',hzc',hzr'⟩:=YA (L:=L') (R:=R') hz;rw[hzc]at hzc';cases hzc';obtain⟨cells',hfill',hcells'⟩:=VG (cs:=(qm len zv).toArray) hf (by simpa using zaR hzr' len) h1 hr';rw[hfill]at hfill';cases hfill';have hnew:(w.alloc (.cells cells elem (0,0))).heap[w.heap.size]? =some (.cells cells elem (0,0)):=by show(w.heap.push _)[w.heap.size]? =_;simp
     obtain⟨g1,g2,_⟩:=zrc (b:=w.heap.size) h hcells' hs (by rw[Array.toArray_toList];exact hnew);exact⟨g1,g2⟩
   ·cases h
  ·cases h
 ·cases h
end
end Go.Am
