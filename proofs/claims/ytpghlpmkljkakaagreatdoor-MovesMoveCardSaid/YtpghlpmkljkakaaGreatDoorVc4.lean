/-
  A part of the proof of the laws on moves.
-/
import Derived.Test.YtpghlpmkljkakaaGreatDoorVa
namespace Go.Vc
open Go Go.RowKit
theorem VN(c:RCtx):∀(r:List Oper)(i:Nat)(pre rs:List OpR)(cs:List Prop),pre.length=i→Ka c r i pre=some (rs,cs)→
  rs.length=i+r.length∧rs.take i=pre∧
  ∀j o,r[j]? =some o→∃x cd,rs[i+j]? =some x∧evalOp c (rs.take (i+j)) (i+j) o=some (x,cd)∧
   ∀k,cd=some k→zlt cs→pimp (rs.take (i+j)) x.path k
 |[],i,pre,rs,cs,hl,h=>by simp only[Ka,Option.some.injEq,Prod.mk.injEq]at h;obtain⟨rfl,rfl⟩:=h;exact⟨by simp[hl],by rw[←hl];simp,by simp⟩
 |o::r,i,pre,rs,cs,hl,h=>by
  simp only[Ka]at h;split at h
  ·rename_i x cd hx;split at h
   ·rename_i rs' cs' hr;obtain⟨h1,h2,h3⟩:=VN c r (i+1) (pre++[x]) rs' cs' (by simp[hl]) hr;have hrs:rs=rs'∧(∀k,cd=some k→zlt cs→pimp pre x.path k)∧(zlt cs→zlt cs'):=by
     cases cd with
     |none=>simp only[Option.some.injEq,Prod.mk.injEq]at h;exact⟨h.1.symm,(by simp),by rw[h.2];exact id⟩
     |some k=>
      simp only[Option.some.injEq,Prod.mk.injEq]at h;refine⟨h.1.symm,fun k' hk hc=>?_,fun hc=>?_⟩
      ·cases hk;rw[←h.2]at hc;exact (zht hc).1
      ·rw[←h.2]at hc;exact (zht hc).2
    obtain⟨rfl,hcd,hcs⟩:=hrs;have htake:rs.take i=pre:=by have:=congrArg (List.take i) h2;rw[List.take_take,Nat.min_eq_left (by omega)]at this;rw[this,←hl];simp
    refine⟨by rw[h1];simp;omega,htake,fun j o' hj=>?_⟩;cases j with
    |zero=>
     simp only[List.getElem?_cons_zero,Option.some.injEq]at hj;subst hj;refine⟨x,cd,?_,?_,?_⟩
     ·have:=congrArg (fun l=>l[i]?) h2;simp only[List.getElem?_take,Nat.lt_succ_self,if_true]at this;rw[Nat.add_zero,this,←hl];simp
     ·rw[Nat.add_zero,htake];exact hx
     ·rw[Nat.add_zero,htake];exact hcd
    |succ j=>simp only[List.getElem?_cons_succ]at hj;obtain⟨y,cd',e1,e2,e3⟩:=h3 j o' hj;rw[show i+1+j=i+(j+1)by omega]at e1 e2 e3;exact⟨y,cd',e1,e2,fun k hk hc=>e3 k hk (hcs hc)⟩
   ·cases h
  ·cases h
theorem jB{c:RCtx}{rs:List OpR}{i:Nat}{o:Oper}{x:OpR}{cd:Option Prop}(h:evalOp c rs i o=some (x,cd)):
  zem rs o=some x.path∧QO c rs i x.path o.op=some (x,cd):=by
 unfold evalOp at h;split at h
 ·cases h
 ·rename_i p hp;have:x.path=p:=by
   unfold QO at h;split at h;all_goals
    split at h
    ·cases h;rfl
    ·cases h
  rw[this];exact⟨hp,h⟩
theorem zmu{c:RCtx}{rs:List OpR}{p:List (Nat×Bool)}{cc a b:Operand}{v:Value}{eff:Option (Nat×Obj)}{cd:Option Prop}
  (h:zie c rs p cc a b=some (v,eff,cd)):eff=none:=by
 unfold zie at h;split at h
 ·split at h
  ·cases h;rfl
  ·cases h
 ·cases h
theorem zfC{c:RCtx}{rs:List OpR}{p:List (Nat×Bool)}{m:Mode}{op:Op}{v:Value}{eff:Option (Nat×Obj)}{cd:Option Prop}
  (h:zfD c rs p m op=some (v,eff,cd)):eff=none:=by
 unfold zfD at h;split at h
 ·exact zmu h
 ·split at h
  ·cases h;rfl
  ·cases h
theorem zeE{c:RCtx}{rs:List OpR}{p:List (Nat×Bool)}{e:Nat}{t:TypeId}{a:Operand}{v:Value}{eff:Option (Nat×Obj)}{cd:Option Prop}
  (h:ziq c rs p e t a=some (v,eff,cd)):eff=none:=by
 unfold ziq at h;split at h
 ·split at h
  ·split at h
   ·cases h;rfl
   ·cases h
  ·cases h
 ·cases h
theorem zcv{c:RCtx}{rs:List OpR}{p:List (Nat×Bool)}{e:Nat}{t:TypeId}{a x:Operand}{v:Value}{eff:Option (Nat×Obj)}{cd:Option Prop}
  (h:zdm c rs p e t a x=some (v,eff,cd)):eff.map (·.1)=some e∧p=[]:=by
 unfold zdm at h;split at h
 ·split at h
  ·split at h
   ·cases h;exact⟨rfl,rfl⟩
   ·cases h
  ·cases h
 ·cases h
theorem WN{c:RCtx}{rs:List OpR}{p:List (Nat×Bool)}{s:Bool}{v v':Value}{st:List Nat}{eff eff':Option (Nat×Obj)}{op:Op}{cd:Option Prop}
  (h:WO c rs p s v st eff op=some (v',eff',cd)):eff'=eff∧v'=v∧zdA p eff=true:=by
 unfold WO at h;split at h
 ·split at h
  ·split at h
   ·rename_i hk;cases h;simp only[Bool.and_eq_true]at hk;exact⟨rfl,rfl,hk.1.2⟩
   ·cases h
  ·cases h
 ·cases h
theorem yV{c:RCtx}{rs:List OpR}{i:Nat}{p:List (Nat×Bool)}{op:Op}{x:OpR}{cd:Option Prop}
  (h:QO c rs i p op=some (x,cd)):x.eff.map (·.1)=effE (hintAt c.hints i) op∧(x.eff≠none→p=[])∧(x.pr≠none→isP (hintAt c.hints i)=true):=by
 unfold QO at h;split at h
 ·rename_i m hm;split at h
  ·rename_i v eff cd' h';cases h;rw[hm,zfC h'];simp[effE]
  ·cases h
 ·rename_i e hm;split at h
  ·rename_i v eff cd' h';cases h;rw[hm];unfold zob at h';split at h'
   ·rw[zeE h'];simp[effE]
   ·have:=zcv h';exact⟨by rw[this.1];rfl,fun _=>this.2,by simp⟩
   ·cases h'
  ·cases h
 ·rename_i v st eff hm;split at h
  ·rename_i v' eff' cd' h';cases h;rw[hm];obtain⟨rfl,_,hf⟩:=WN h';cases eff' with
   |none=>simp[effE]
   |some e=>refine⟨rfl,fun _=>?_,by simp⟩;cases p with
    |nil=>rfl
    |cons x r=>simp[zdA]at hf
  ·cases h
 ·rename_i v st eff hm;split at h
  ·rename_i v' eff' cd' h';cases h;rw[hm];obtain⟨rfl,_,hf⟩:=WN h';cases eff' with
   |none=>simp[effE]
   |some e=>refine⟨rfl,fun _=>?_,by simp⟩;cases p with
    |nil=>rfl
    |cons x r=>simp[zdA]at hf
  ·cases h
 ·rename_i Φ st hm;split at h
  ·cases h;rw[hm];simp[effE,isP]
  ·cases h
 ·rename_i v st hm;split at h
  ·cases h;rw[hm];simp[effE]
  ·cases h
theorem ziN{c:RCtx}{rs:List OpR}{i:Nat}{p:List (Nat×Bool)}{op:Op}{x:OpR}{cd:Option Prop}(h:QO c rs i p op=some (x,cd)):
  match hintAt c.hints i with
  |.auto m=>zfD c rs p m op=some (x.val,x.eff,cd)∧x.pr=none
  |.mem e=>zob c rs p e op=some (x.val,x.eff,cd)∧x.pr=none
  |.call v st eff=>WO c rs p true v st eff op=some (x.val,x.eff,cd)∧x.pr=none
  |.callO v st eff=>WO c rs p false v st eff op=some (x.val,x.eff,cd)∧x.pr=none
  |.callP Φ st=>∃k,zba c rs p Φ st op=some k∧cd=some k∧x.pr=some Φ∧x.eff=none
  |.callQ v st=>∃k,zi4 c rs p v st op=some k∧cd=some k∧x.val=v∧x.pr=none∧x.eff=none:=by
 unfold QO at h;split at h;all_goals
  rename_i hm;split at h
  ·rename_i h';simp only[Option.some.injEq,Prod.mk.injEq]at h;obtain⟨h1,h2⟩:=h;simp only[hm];subst h2;rw[←h1];first
    |exact⟨h',rfl⟩
    |exact⟨_,h',rfl,rfl,rfl⟩
    |exact⟨_,h',rfl,rfl,rfl,rfl⟩
  ·cases h
theorem zhk{c:RCtx}{rs:List OpR}{i:Nat}{p:List (Nat×Bool)}{op:Op}{x:OpR}{cd:Option Prop}{Φ:Value→World→Prop}
  (h:QO c rs i p op=some (x,cd)) (hx:x.pr=some Φ):x.val=undef∧∃st k,hintAt c.hints i=.callP Φ st∧cd=some k∧zba c rs p Φ st op=some k:=by
 unfold QO at h;split at h;all_goals
  split at h
  ·simp only[Option.some.injEq,Prod.mk.injEq]at h;obtain⟨h1,h2⟩:=h;rw[←h1]at hx;first
    |(cases hx;done)
    |(
     rw[←h1];simp only[Option.some.injEq]at hx;subst hx;exact⟨rfl,_,_,‹_›,h2.symm,‹_›⟩)
  ·cases h
def fin(rs:List OpR)(j:Nat):Value:=
 match rs[j]? with
 |some r=>if jH rs r.path then r.val else undef
 |none=>undef
def zj8(rs:List OpR)(j:Nat):Option (Value→World→Prop):=
 match rs[j]? with
 |some r=>r.pr
 |none=>none
def slotS(ops:List Oper)(L:List (Nat×Value))(rs:List OpR)(S:Nat→Bool)(t:Nat):Option Value:=
 match wrFrom ops 0 t with
 |some j=>if S j then(match zj8 rs j with
  |none=>some (fin rs j)
  |some _=>none)else look L t
 |none=>look L t
def predS(ops:List Oper)(rs:List OpR)(S:Nat→Bool)(t:Nat):Option (Value→World→Prop):=
 match wrFrom ops 0 t with
 |some j=>if S j then(match rs[j]? with
  |some r=>if jH rs r.path then r.pr else none
  |none=>none)else none
 |none=>none
def hbS(rs:List OpR)(S:Nat→Bool)(e:Nat)(h:HB):HB:=
 match wE e rs 0 with
 |some (j,o)=>if S j then⟨h.b,o,h.wr⟩else h
 |none=>h
def HS(rs:List OpR)(S:Nat→Bool)(H:List HB):List HB:=H.mapIdx fun e h=>hbS rs S e h
structure Inv(c:RCtx)(n:Nat)(rs:List OpR)(S:Nat→Bool)(a:Act)(w:World):Prop where
 defers:a.defers=[]
 size:a.tmps.size=n
 slots:∀t v,slotS c.ops c.L rs S t=some v→a.tmps.getD t undef=v
 mem:Ww c.X c.w0 w (HS rs S c.H)
 preds:∀t Φ,predS c.ops rs S t=some Φ→Φ (a.tmps.getD t undef) w
 since:Keeps c.Y c.ws w
theorem q9:∀(ops:List Oper)(i t j:Nat),wrFrom ops i t=some j→i≤j∧∃o,ops[j-i]? =some o∧o.dst=some t
 |[],_,_,_,h=>by simp[wrFrom]at h
 |o::r,i,t,j,h=>by
  simp only[wrFrom]at h;split at h
  ·rename_i d hd;split at h
   ·rename_i hb;cases h;exact⟨Nat.le_refl _,o,by simp,by rw[hd,Nat.eq_of_beq_eq_true hb]⟩
   ·obtain⟨h1,o',h2,h3⟩:=q9 r (i+1) t j h;refine⟨by omega,o',?_,h3⟩;rw[show j-i=(j-(i+1))+1 by omega];simpa using h2
  ·obtain⟨h1,o',h2,h3⟩:=q9 r (i+1) t j h;refine⟨by omega,o',?_,h3⟩;rw[show j-i=(j-(i+1))+1 by omega];simpa using h2
theorem ZF(e:Nat):∀(rs:List OpR)(i j:Nat)(o:Obj),wE e rs i=some (j,o)→i≤j∧∃r,rs[j-i]? =some r∧r.eff=some (e,o)
 |[],_,_,_,h=>by simp[wE]at h
 |r::rs,i,j,o,h=>by
  simp only[wE]at h;split at h
  ·rename_i e' o' hd;split at h
   ·rename_i hb;cases h;exact⟨Nat.le_refl _,r,by simp,by rw[hd,Nat.eq_of_beq_eq_true hb]⟩
   ·obtain⟨h1,o',h2,h3⟩:=ZF e rs (i+1) j o h;refine⟨by omega,o',?_,h3⟩;rw[show j-i=(j-(i+1))+1 by omega];simpa using h2
  ·obtain⟨h1,o',h2,h3⟩:=ZF e rs (i+1) j o h;refine⟨by omega,o',?_,h3⟩;rw[show j-i=(j-(i+1))+1 by omega];simpa using h2
theorem znK(e:Nat):∀(rs:List OpR)(i m:Nat),wE e (rs.take m) i=match wE e rs i with
  |some (j,o)=>if j<i+m then some (j,o)else none
  |none=>none
 |[],i,m=>by simp[wE]
 |r::rs,i,0=>by
  simp only[List.take_zero,wE,Nat.add_zero];split
  ·rename_i j o h;have:=(ZF e (r::rs) i j o h).1;rw[if_neg (by omega)]
  ·rfl
 |r::rs,i,m+1=>by
  have ih:=znK e rs (i+1) m;simp only[List.take_succ_cons,wE];split
  ·split
   ·simp
   ·rw[ih];rw[show i+1+m=i+(m+1)by omega]
  ·rw[ih,show i+1+m=i+(m+1)by omega]
end Go.Vc
