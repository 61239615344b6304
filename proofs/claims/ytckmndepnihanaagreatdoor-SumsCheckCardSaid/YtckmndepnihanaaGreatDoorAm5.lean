/-
  A part of the proof of the laws.
-/
import Derived.Test.YtckmndepnihanaaGreatDoorAm4
namespace Go.Am
open Go Go.RowKit Go.Vc
section
variable {P : Program} {L : Lk} {R : Ro}
theorem zhq{k:IntKind}{n:Int}{v:AV}(h:zkE k n=(true,v)):∃m:Vc.Mode,∃c V,m.int k n=(c,V)∧jg c∧Rel L R v V:=by
 unfold zkE at h;split at h
 ·simp only[Prod.mk.injEq]at h;obtain⟨h1,rfl⟩:=h;exact⟨.exact,_,_,rfl,Jq.1 h1,rfl⟩
 ·simp only[Prod.mk.injEq]at h;obtain⟨-,rfl⟩:=h;exact⟨.wrap,_,_,rfl,trivial,rfl⟩
theorem zhA(a b:Int):(a==b)=decide (a=b):=by by_cases h:a=b<;>simp[h]
theorem zvI(a b:Int):(a !=b)=!decide (a=b):=by by_cases h:a=b<;>simp[h]
theorem zdy(a b:List UInt8):(a==b)=decide (a=b):=by by_cases h:a=b<;>simp[h]
theorem zdz(a b:Bool):(a==b)=decide (a=b):=by cases a<;>cases b<;>rfl
theorem W5{op:BinOp}{k:IntKind}{a b:Int}{v:AV}(h:zlf op k a b=some (true,v)):
  ∃m:Vc.Mode,∃c V,zjr m op k a b=some (c,V)∧jg c∧Rel L R v V:=by
 unfold zlf at h;split at h;case h_4|h_5=>
  simp only[Option.some.injEq,Prod.mk.injEq,Bool.and_eq_true,decide_eq_true_eq,nonneg]at h;first
   |(obtain⟨⟨⟨h1,h2⟩,h3⟩,rfl⟩:=h;exact⟨.exact,_,_,rfl,⟨h1,h2,Jq.1 h3⟩,rfl⟩)
   |(obtain⟨⟨h1,h2⟩,rfl⟩:=h;exact⟨.exact,_,_,rfl,And.intro h1 h2,rfl⟩)
 case h_6|h_7|h_8=>cases h;exact⟨.exact,none,_,rfl,trivial,rfl⟩
 case h_9=>
  split at h
  ·rename_i cc hc;simp only[Option.some.injEq,Prod.mk.injEq,true_and]at h;subst h;refine⟨.exact,none,.bool cc,?_,trivial,rfl⟩;unfold zxU at hc;split at hc<;>simp only[Option.some.injEq,reduceCtorEq]at hc<;>subst hc<;>simp only[zjr,zhA,zvI]
  ·cases h
 all_goals
  simp only[Option.some.injEq]at h;obtain⟨m,c,V,h1,h2,h3⟩:=zhq (L:=L) (R:=R) h;exact⟨m,c,V,by simp only[zjr,h1],h2,h3⟩
theorem zlc{op:BinOp}{a b:List UInt8}{v:AV}(h:zhM op a b=some (true,v)):
  ∃c V,zld op (bl (bs a)) (bl (bs b))=some (c,V)∧jg c∧Rel L R v V:=by
 simp only[Yw];unfold zhM at h;split at h<;>simp only[Option.some.injEq,Prod.mk.injEq,true_and,reduceCtorEq]at h
 ·obtain⟨h1,rfl⟩:=h;have h1:=zfh.1 h1;exact⟨_,_,rfl,by show _≤_;omega,rfl⟩
 all_goals
  subst h;exact⟨_,_,rfl,trivial,by simp only[Rel,zdy]⟩
theorem zmC:∀{fs:List Field}{n:Nat}{xs ys:List AV}{Xs Ys:List Value}{b:Bool}{d0:Nat},zhw P fs n xs ys=some b→
  RelL L R xs (Xs.drop n)→RelL L R ys (Ys.drop n)→ZF P (j5 P (d0+1)) Xs Ys fs=some b:=by
 intro fs;induction fs with
 |nil=>intro n xs ys Xs Ys b d0 he _ _;cases xs<;>cases ys<;>simp only[zhw,reduceCtorEq,Option.some.injEq]at he;subst he;rfl
 |cons f r ih=>
  intro n xs ys Xs Ys b d0 he rx ry
  match xs,ys,he,rx,ry with
  |[],_,he,_,_=>simp[zhw]at he
  |x::xr,[],he,_,_=>simp[zhw]at he
  |x::xr,y::yr,he,rx,ry=>
   obtain⟨X,Xr,e1,r1,r2⟩:=rx;obtain⟨Y,Yr,e2,r3,r4⟩:=ry;have eX:Xs[n]? =some X:=by have:=congrArg (·[0]?) e1;simpa[List.getElem?_drop]using this
   have eY:Ys[n]? =some Y:=by have:=congrArg (·[0]?) e2;simpa[List.getElem?_drop]using this
   have dX:Xs.drop (n+1)=Xr:=by have:=congrArg (List.drop 1) e1;simpa[List.drop_drop,Nat.add_comm]using this
   have dY:Ys.drop (n+1)=Yr:=by have:=congrArg (List.drop 1) e2;simpa[List.drop_drop,Nat.add_comm]using this
   simp only[zhw]at he;split at he
   ·rename_i c h1 h2 h3 h4;have h1:=Nat.eq_of_beq_eq_true h1;have ih':=ih (d0:=d0) h4 (by rw[dX];exact r2) (by rw[dY];exact r4);have key:∃d,zw P f.type=some false∧j5 P (d0+1) f.type X Y=some d∧b=(d&&c):=by
     split at he
     ·rename_i p q hu;cases he;simp only[Rel]at r1 r3;subst r1 r3;exact⟨decide (p=q),by simp[zw,hu],by simp only[j5,hu,zdz],rfl⟩
     ·rename_i kk k p k' q hu;split at he
      ·rename_i hk;cases he;simp only[Rel]at r1 r3;subst r1 r3;exact⟨decide (p=q),by simp[zw,hu],by simp only[j5,hu,hk,if_true,zhA],rfl⟩
      ·cases he
     ·rename_i p q hu;cases he;simp only[Rel]at r1 r3;subst r1 r3;exact⟨decide (p=q),by simp[zw,hu],by simp only[j5,hu,Yw,zdy],rfl⟩
     ·cases he
    obtain⟨d,hagg,heq,rfl⟩:=key;have pX:zT P f.type Xs f.offset=some X:=by unfold zT;rw[hagg,h3,h1];exact eX
    have pY:zT P f.type Ys f.offset=some Y:=by unfold zT;rw[hagg,h3,h1];exact eY
    cases r with
    |nil=>
     have hc:c=true:=by cases xr<;>cases yr<;>simp only[zhw,reduceCtorEq,Option.some.injEq]at h4;exact h4.symm
     subst hc;simp only[ZF,h2,pX,pY,heq,Bool.and_true];rfl
    |cons g s=>
     rw[ZF]
     ·simp only[h2,pX,pY,heq,ih'];rfl
     ·intro hh;cases hh
   ·cases he
theorem Q3{F:TypeId→Value→Value→Option Bool}{xs ys:List Value}{f:Field}{r:List Field}{b c:Bool}(h1:ZF P F xs ys [f]=some b)(h2:ZF P F xs ys r=some c):
  ZF P F xs ys (f::r)=some (b&&c):=by
 cases r with
 |nil=>simp only[ZF,Option.some.injEq]at h2;subst h2;rw[Bool.and_true];exact h1
 |cons g s=>
  rw[ZF]at h1;rw[ZF]
  ·split at h1
   ·cases h1
   ·rename_i hn;rw[if_neg hn];split at h1
    ·rename_i a b' ha hb;simp only[h1,h2]
    ·cases h1
  ·intro hh;cases hh
theorem zrH{t:TypeId}{x y:AV}{X Y:Value}{b:Bool}{d:Nat}(h:eq1 P t x y=some b)(hx:Rel L R x X)(hy:Rel L R y Y):zw P t=some false∧j5 P (d+1) t X Y=some b:=by
 unfold eq1 at h;split at h
 ·rename_i p q hu;cases h;simp only[Rel]at hx hy;subst hx hy;exact⟨by simp[zw,hu],by simp only[j5,hu,zdz]⟩
 ·rename_i kk k p k' q hu;split at h
  ·rename_i hk;cases h;simp only[Rel]at hx hy;subst hx hy;exact⟨by simp[zw,hu],by simp only[j5,hu,hk,if_true,zhA]⟩
  ·cases h
 ·rename_i p q hu;cases h;simp only[Rel]at hx hy;subst hx hy;exact⟨by simp[zw,hu],by simp only[j5,hu,Yw,zdy]⟩
 ·cases h
theorem zvF:∀{fs:List Field}{n:Nat}{xs ys:List AV}{Xs Ys:List Value}{b:Bool},znA P fs n xs ys=some b→
  RelL L R xs (Xs.drop n)→RelL L R ys (Ys.drop n)→ZF P (j5 P 7) Xs Ys fs=some b:=by
 intro fs;induction fs with
 |nil=>intro n xs ys Xs Ys b he _ _;cases xs<;>cases ys<;>simp only[znA,reduceCtorEq,Option.some.injEq]at he;subst he;rfl
 |cons f r ih=>
  intro n xs ys Xs Ys b he rx ry;simp only[znA]at he;split at he
  ·rename_i k gs h1 h2 h3 h4;split at he
   ·rename_i b1 c1 g1 g2 g3 g4 g5;cases he;have h1:=Nat.eq_of_beq_eq_true h1;have g2:=Nat.le_of_ble_eq_true g2;have g3:=Nat.le_of_ble_eq_true g3;have ih':=ih g5 (by have:=rx.drop (k+1);rwa [List.drop_drop]at this) (by have:=ry.drop (k+1);rwa [List.drop_drop]at this);have hagg:zw P f.type=some true:=by simp[zw,h4]
    have e:=zmC (Xs:=(Xs.drop n).take (k+1)) (Ys:=(Ys.drop n).take (k+1)) (d0:=5) g4 (by simpa using rx.take (k+1)) (by simpa using ry.take (k+1));refine Q3 ?_ ih';have pX:zT P f.type Xs f.offset=some (.agg ((Xs.drop n).take (k+1)).toArray):=by unfold zT;rw[hagg,h3,h1]
    have pY:zT P f.type Ys f.offset=some (.agg ((Ys.drop n).take (k+1)).toArray):=by unfold zT;rw[hagg,h3,h1]
    have e7:j5 P 7 f.type (.agg ((Xs.drop n).take (k+1)).toArray) (.agg ((Ys.drop n).take (k+1)).toArray)=some b1:=by simp only[j5,h4,g1,Bool.false_eq_true,if_false];exact e
    simp only[ZF,h2,pX,pY,e7,Bool.false_eq_true,if_false]
   ·cases he
  ·rename_i _ h1 h2 h3 _;split at he
   ·rename_i x xr y yr;split at he
    ·rename_i b1 c1 g1 g2;cases he;have h1:=Nat.eq_of_beq_eq_true h1;obtain⟨X,Xr,e1,r1,r2⟩:=rx;obtain⟨Y,Yr,e2,r3,r4⟩:=ry;have eX:Xs[n]? =some X:=by have:=congrArg (·[0]?) e1;simpa[List.getElem?_drop]using this
     have eY:Ys[n]? =some Y:=by have:=congrArg (·[0]?) e2;simpa[List.getElem?_drop]using this
     have dX:Xs.drop (n+1)=Xr:=by have:=congrArg (List.drop 1) e1;simpa[List.drop_drop,Nat.add_comm]using this
     have dY:Ys.drop (n+1)=Yr:=by have:=congrArg (List.drop 1) e2;simpa[List.drop_drop,Nat.add_comm]using this
     obtain⟨hagg,heq⟩:=zrH (d:=6) g1 r1 r3;have pX:zT P f.type Xs f.offset=some X:=by unfold zT;rw[hagg,h3,h1];exact eX
     have pY:zT P f.type Ys f.offset=some Y:=by unfold zT;rw[hagg,h3,h1];exact eY
     refine Q3 ?_ (ih g2 (by rw[dX];exact r2) (by rw[dY];exact r4));simp only[ZF,h2,pX,pY,heq,Bool.false_eq_true,if_false]
    ·cases he
   ·cases he
  ·cases he
theorem zhv{F:List Field→List AV→List AV→Bool→Option Bool}{D:Nat}
  (hF:∀{gs:List Field}{xs ys:List AV}{Xs Ys:List Value}{c b:Bool},F gs xs ys c=some b→RelL L R xs Xs→RelL L R ys Ys→∃b0,b=(b0&&c)∧ZF P (j5 P D) Xs Ys gs=some b0):
  ∀{fs:List Field}{n:Nat}{xs ys:List AV}{Xs Ys:List Value}{c b:Bool},zi0 P F fs n xs ys c=some b→
  RelL L R xs (Xs.drop n)→RelL L R ys (Ys.drop n)→∃b0,b=(b0&&c)∧ZF P (j5 P (D+1)) Xs Ys fs=some b0:=by
 intro fs;induction fs with
 |nil=>intro n xs ys Xs Ys c b he _ _;cases xs<;>cases ys<;>simp only[zi0,reduceCtorEq,Option.some.injEq]at he;subst he;exact⟨true,by simp,rfl⟩
 |cons f r ih=>
  intro n xs ys Xs Ys c b he rx ry;simp only[zi0]at he;split at he
  ·rename_i k gs h1 h2 h3 h4;split at he
   ·rename_i d1 g1 g2 g3 g5;have h1:=Nat.eq_of_beq_eq_true h1;have g2:=Nat.le_of_ble_eq_true g2;have g3:=Nat.le_of_ble_eq_true g3;obtain⟨b2,rfl,ih'⟩:=ih g5 (by have:=rx.drop (k+1);rwa [List.drop_drop]at this) (by have:=ry.drop (k+1);rwa [List.drop_drop]at this);have hagg:zw P f.type=some true:=by simp[zw,h4]
    obtain⟨b1,rfl,e⟩:=hF he (Xs:=(Xs.drop n).take (k+1)) (Ys:=(Ys.drop n).take (k+1)) (rx.take (k+1)) (ry.take (k+1));refine⟨b1&&b2,by rw[Bool.and_assoc],Q3 ?_ ih'⟩;have pX:zT P f.type Xs f.offset=some (.agg ((Xs.drop n).take (k+1)).toArray):=by unfold zT;rw[hagg,h3,h1]
    have pY:zT P f.type Ys f.offset=some (.agg ((Ys.drop n).take (k+1)).toArray):=by unfold zT;rw[hagg,h3,h1]
    have e7:j5 P (D+1) f.type (.agg ((Xs.drop n).take (k+1)).toArray) (.agg ((Ys.drop n).take (k+1)).toArray)=some b1:=by simp only[j5,h4,g1,Bool.false_eq_true,if_false];exact e
    simp only[ZF,h2,pX,pY,e7,Bool.false_eq_true,if_false]
   ·cases he
  ·rename_i _ h1 h2 h3 _;split at he
   ·rename_i x xr y yr;split at he
    ·rename_i b1 d1 g1 g2;cases he;have h1:=Nat.eq_of_beq_eq_true h1;obtain⟨X,Xr,e1,r1,r2⟩:=rx;obtain⟨Y,Yr,e2,r3,r4⟩:=ry;have eX:Xs[n]? =some X:=by have:=congrArg (·[0]?) e1;simpa[List.getElem?_drop]using this
     have eY:Ys[n]? =some Y:=by have:=congrArg (·[0]?) e2;simpa[List.getElem?_drop]using this
     have dX:Xs.drop (n+1)=Xr:=by have:=congrArg (List.drop 1) e1;simpa[List.drop_drop,Nat.add_comm]using this
     have dY:Ys.drop (n+1)=Yr:=by have:=congrArg (List.drop 1) e2;simpa[List.drop_drop,Nat.add_comm]using this
     obtain⟨hagg,heq⟩:=zrH (d:=D) g1 r1 r3;have pX:zT P f.type Xs f.offset=some X:=by unfold zT;rw[hagg,h3,h1];exact eX
     have pY:zT P f.type Ys f.offset=some Y:=by unfold zT;rw[hagg,h3,h1];exact eY
     obtain⟨b2,rfl,ih'⟩:=ih g2 (by rw[dX];exact r2) (by rw[dY];exact r4);refine⟨b1&&b2,by rw[Bool.and_assoc],Q3 ?_ ih'⟩;simp only[ZF,h2,pX,pY,heq,Bool.false_eq_true,if_false]
    ·cases he
   ·cases he
  ·cases he
theorem zvE{fs:List Field}{xs ys:List AV}{Xs Ys:List Value}{b:Bool}(h:zxS P fs xs ys=some b)(rx:RelL L R xs Xs)(ry:RelL L R ys Ys):ZF P (j5 P 7) Xs Ys fs=some b:=by obtain⟨b0,rfl,e⟩:=zhv (L:=L) (R:=R) (D:=6) (fun h1 r1 r2=>zhv (L:=L) (R:=R) (D:=5) (fun h2 r3 r4=>zhv (L:=L) (R:=R) (D:=4) (fun h3 _ _=>by cases h3) h2 (by simpa using r3) (by simpa using r4)) h1 (by simpa using r1) (by simpa using r2)) h (by simpa using rx) (by simpa using ry);rw[Bool.and_true];exact e
theorem RoRow.sliced{R:Ro}{full:Bool}{n:Nat}{V:Value}{C:List Value→Prop}(h:RoRow R full n V C)(hn:n≠0):∃a n cp,V=.slice (some a) n cp:=by
 rcases h with⟨h,_⟩|⟨b,off,cap,cs,T,fr,seg,tl,h,_⟩
 ·exact absurd h hn
 ·exact⟨_,_,_,h⟩
theorem zam{x:AV}{X:Value}{c:Bool}(h:zdj x=some (true,c))(hx:Rel L R x X):∃a n cp,X=.slice a n cp∧c=a.isNone:=by
 have ro:∀{full:Bool}{n:Nat}{C:List Value→Prop},Nat.ble 1 n=true→RoRow R full n X C→∃a n cp,X=.slice (some a) n cp:=fun hn hr=>RoRow.sliced hr (by have:=Nat.le_of_ble_eq_true hn;omega)
 cases x<;>simp only[zdj,reduceCtorEq,Option.some.injEq,Prod.mk.injEq,true_and]at h;case nils=>subst h;exact⟨none,0,0,hx,rfl⟩
 case rwp=>subst h;obtain⟨f,_,_,_,rfl⟩:=hx;exact⟨_,_,_,rfl,rfl⟩
 case rwf=>subst h;obtain⟨f,_,_,_,rfl⟩:=hx;exact⟨_,_,_,rfl,rfl⟩
 case rob=>obtain⟨hn,rfl⟩:=h;obtain⟨a,n,cp,rfl⟩:=ro hn hx;exact⟨_,_,_,rfl,rfl⟩
 case roi=>obtain⟨hn,rfl⟩:=h;obtain⟨a,n,cp,rfl⟩:=ro hn hx;exact⟨_,_,_,rfl,rfl⟩
 case ros=>obtain⟨hn,rfl⟩:=h;obtain⟨a,n,cp,rfl⟩:=ro hn hx;exact⟨_,_,_,rfl,rfl⟩
 case rov=>obtain⟨hn,rfl⟩:=h;obtain⟨a,n,cp,rfl⟩:=ro hn hx.2;exact⟨_,_,_,rfl,rfl⟩
 case rws=>obtain⟨hd,rfl⟩:=h;have hd:=of_decide_eq_true hd;obtain⟨f,_,_,_,_,a,cp,rfl,_,p5⟩:=hx;obtain⟨_,rfl⟩:=p5 hd;exact⟨_,_,_,rfl,rfl⟩
 case rwc=>obtain⟨hd,rfl⟩:=h;have hd:=of_decide_eq_true hd;obtain⟨f,_,⟨_,_,_,a,cp,rfl,_,p5⟩,_⟩:=hx;obtain⟨_,rfl⟩:=p5 hd;exact⟨_,_,_,rfl,rfl⟩
theorem zvT{op:BinOp}{t:TypeId}{x y v:AV}{X Y:Value}(h:zxo P op t x y=some (true,v))(hx:Rel L R x X)(hy:Rel L R y Y):
  ∃m:Vc.Mode,∃c V,XT P m op t X Y=some (c,V)∧jg c∧Rel L R v V:=by
 unfold zxo at h;split at h
 ·rename_i k k' b;obtain⟨n,hn,rfl⟩:=hx;simp only[Rel]at hy;subst hy;split at h
  ·rename_i hk hb;have hb:b≤0:=by simpa using hb
   cases h;obtain⟨m,c,V,h1,h2,h3⟩:=W5 (L:=L) (R:=R) (op:=.eql) (k:=k) (a:=n) (b:=b) (v:=.bool (decide (n=b))) rfl;rw[decide_eq_false (by omega)]at h3;exact⟨m,c,V,by simp only[XT,hk,if_true,h1],h2,h3⟩
  ·rename_i hk hb;have hb:b≤0:=by simpa using hb
   cases h;obtain⟨m,c,V,h1,h2,h3⟩:=W5 (L:=L) (R:=R) (op:=.neq) (k:=k) (a:=n) (b:=b) (v:=.bool (!decide (n=b))) rfl;rw[decide_eq_false (by omega)]at h3;exact⟨m,c,V,by simp only[XT,hk,if_true,h1],h2,h3⟩
  ·cases h
 ·rename_i k a k' b;simp only[Rel]at hx hy;subst hx hy;split at h
  ·simp only[Option.some.injEq,Prod.mk.injEq,Bool.and_eq_true,nonneg,decide_eq_true_eq,Nat.ble_eq]at h;obtain⟨⟨h1,h2⟩,rfl⟩:=h;exact⟨.exact,_,_,rfl,⟨h1,by omega⟩,rfl⟩
  ·simp only[Option.some.injEq,Prod.mk.injEq,Bool.and_eq_true,nonneg,decide_eq_true_eq,Nat.ble_eq]at h;obtain⟨⟨h1,h2⟩,rfl⟩:=h;exact⟨.exact,_,_,rfl,⟨h1,by omega⟩,rfl⟩
  ·split at h
   ·rename_i h1 h2 _ hk;obtain⟨m,c,V,g1,g2,g3⟩:=W5 (L:=L) (R:=R) h;refine⟨m,c,V,?_,g2,g3⟩;cases op<;>first|exact (h1 rfl).elim|exact (h2 rfl).elim|simp only[XT,hk,if_true,g1]
   ·cases h
 ·simp only[Rel]at hx hy;subst hx hy;obtain⟨c,V,h1,h2,h3⟩:=zlc (L:=L) (R:=R) h;exact⟨.exact,c,V,by simp only[XT,h1],h2,h3⟩
 ·rename_i a b;simp only[Rel]at hx hy;subst hx hy;split at h<;>simp only[Option.some.injEq,Prod.mk.injEq,true_and,reduceCtorEq]at h;all_goals
   rename_i hu;subst h;exact⟨.exact,none,_,by simp only[XT,hu,zle];rfl,trivial,by simp only[Rel,zdz]⟩
 ·rename_i xs ys;obtain⟨Xs,rfl,hx⟩:=hx;obtain⟨Ys,rfl,hy⟩:=hy;have key:∀{c:Bool},zrG P t xs ys=some c→P.eqGuardType P.depth t=false∧j5 P 8 t (.agg Xs.toArray) (.agg Ys.toArray)=some c:=by
   intro c hc;unfold zrG at hc;split at hc
   ·rename_i fs hu hg hs;refine⟨hg,?_⟩;simp only[j5,hu,hs,Bool.false_eq_true,if_false];split at hc
    ·rename_i b hb;cases hc;exact zmC (d0:=6) hb (by simpa using hx) (by simpa using hy)
    ·split at hc
     ·rename_i b hb;cases hc;exact zvF hb (by simpa using hx) (by simpa using hy)
     ·exact zvE hc (by simpa using hx) (by simpa using hy)
   ·cases hc
  split at h<;>simp only[Option.some.injEq,Prod.mk.injEq,true_and,reduceCtorEq]at h;all_goals
   rename_i c hc;obtain⟨h1,h2⟩:=key hc;subst h;exact⟨.exact,none,_,by simp only[XT,h1,h2,Bool.false_eq_true,if_false],trivial,rfl⟩
 ·have hy:Y=.slice none 0 0:=hy;subst hy;split at h
  ·rename_i e c hu hc;cases h;obtain⟨a,n,cp,rfl,rfl⟩:=zam hc hx;exact⟨.exact,none,_,by simp only[XT,hu],trivial,rfl⟩
  ·rename_i e c hu hc;cases h;obtain⟨a,n,cp,rfl,rfl⟩:=zam hc hx;exact⟨.exact,none,_,by simp only[XT,hu],trivial,rfl⟩
  ·cases h
 ·cases h
theorem ziz(v:Value):Rel L R (zeh v) v:=by
 unfold zeh;split<;>(try exact rfl)
 ·split
  ·rename_i f first cap h1 h2
   exact⟨[],[],by simp[Array.toList_eq_nil_iff.1 h1,Array.toList_eq_nil_iff.1 h2],rfl,rfl⟩
  ·trivial
 ·trivial
theorem Jh:∀(l:List Value),RelL L R (l.map zeh) l
 |[]=>rfl
 |v::r=>⟨v,r,rfl,ziz v,Jh r⟩
theorem zmp(v:Value):Rel L R (ofV v) v:=by
 unfold ofV;split
 ·rename_i cs;exact⟨cs.toList,rfl,Jh _⟩
 ·exact ziz v
def GlobOK(gl:Glob)(R:Ro):Prop:=∀g,Rel (fun _=>none) R (jR gl g) (.pointer (some ⟨g,0,none⟩))
theorem ZD:∀(gl:Glob)(g:Nat),idsV (jR gl g)=[]
 |[],_=>rfl
 |(h,v)::r,g=>by
  simp only[jR];split
  ·rfl
  ·exact ZD r g
theorem YV{gl:Glob}(hg:GlobOK gl R){s:Slots}{a:Act}(hs:∀t,Rel L R (get s t) (a.tmps.getD t undef))(x:Operand):Rel L R (opnd gl s x) (a.eval x):=by
 cases x with
 |tmp t=>exact hs t
 |const v=>exact zmp v
 |global g=>exact zk (fun _ _ h=>h) _ _ (by simp[opnd,ZD]) (hg g)
 |func f=>exact⟨[],[],rfl,rfl,rfl⟩
theorem YS{t:TypeId}{cs:List AV}{off:Nat}{v:AV}{vs:List Value}(h:YT P t cs off=some v)(hr:RelL L R cs vs):
  ∃V n,zT P t vs off=some V∧Rel L R v V∧zx P t=some n∧off+n≤vs.length:=by
 unfold YT at h;split at h
 ·rename_i n ha hs;split at h
  ·rename_i hle;cases h;exact⟨_,n,by simp only[zT,ha,hs],⟨_,rfl,(hr.drop off).take n⟩,hs,by have:=Nat.le_of_ble_eq_true hle;rw[hr.length]at this;exact this⟩
  ·cases h
 ·rename_i ha hs;obtain⟨V,e,hv⟩:=hr.get h;exact⟨V,1,by simp only[zT,ha,hs];exact e,hv,hs,(List.getElem?_eq_some_iff.1 e).1⟩
 ·cases h
theorem ze4(off:Nat):∀(vs:List Value)(k:Nat)(cs:Array Value)(p:Nat),off+k+vs.length≤cs.size→
  ((vs.zipIdx k).foldl (fun(cs:Array Value)(x:Value×Nat)=>cs.setIfInBounds (off+x.2) x.1) cs)[p]? =if off+k≤p∧p<off+k+vs.length then vs[p-(off+k)]? else cs[p]?
 |[],k,cs,p,_=>by rw[if_neg (by simp)];rfl
 |v::r,k,cs,p,hle=>by
  simp only[List.zipIdx_cons,List.foldl_cons];rw[ze4 off r (k+1) _ p (by simp at hle⊢;omega)];by_cases h1:off+(k+1)≤p∧p<off+(k+1)+r.length
  ·rw[if_pos h1,if_pos (by simp;omega),show p-(off+k)=(p-(off+(k+1)))+1 by omega];simp
  ·rw[if_neg h1];by_cases h2:p=off+k
   ·subst h2;rw[if_pos (by simp)];simp only[List.length_cons]at hle;have h3:off+k<cs.size:=by omega
    simp[h3]
   ·rw[if_neg (by simp;omega),Array.getElem?_setIfInBounds_ne (by omega)]
theorem zkB(off:Nat)(vs:List Value)(cs:Array Value)(hle:off+vs.length≤cs.size):
  (vs.toArray.zipIdx.foldl (fun cs x=>cs.setIfInBounds (off+x.2) x.1) cs).toList=cs.toList.take off++vs++cs.toList.drop (off+vs.length):=by
 rw[←Array.foldl_toList];apply List.ext_getElem?;intro p;have h:=ze4 off vs 0 cs p (by omega);simp only[Nat.add_zero]at h;have h':((vs.toArray.zipIdx.toList).foldl (fun(cs:Array Value)(x:Value×Nat)=>cs.setIfInBounds (off+x.2) x.1) cs).toList[p]? =if off≤p∧p<off+vs.length then vs[p-off]? else cs[p]? :=by rw[Array.getElem?_toList,←h];simp
 rw[h'];have hsz:(cs.toList.take off).length=off:=by simp;omega
 by_cases h1:off≤p∧p<off+vs.length
 ·rw[if_pos h1,List.append_assoc,List.getElem?_append_right (by omega),hsz,List.getElem?_append_left (by omega)]
 ·rw[if_neg h1];by_cases h2:p<off
  ·rw[List.append_assoc,List.getElem?_append_left (by omega),List.getElem?_take,if_pos h2];simp
  ·rw[List.getElem?_append_right (by simp;omega)];simp only[List.length_append,hsz,List.getElem?_drop];rw[show off+vs.length+(p-(off+vs.length))=p by omega];simp
theorem VG{place:Nat→Option (Nat×Nat)}:∀{parts:List (Nat×AV)}{l l':List AV}{cs:Array Value}{parts':List (Nat×Value)},
  zds place l parts=some l'→RelL L R l cs.toList→parts.map (·.1)=parts'.map (·.1)→RelL L R (parts.map (·.2)) (parts'.map (·.2))→
  ∃cs',Instr.fill place cs parts'=some cs'∧RelL L R l' cs'.toList:=by
 intro parts;induction parts with
 |nil=>
  intro l l' cs parts' h hr h1 _;simp only[zds,Option.some.injEq]at h;subst h;cases parts' with
  |nil=>exact⟨cs,rfl,hr⟩
  |cons _ _=>simp at h1
 |cons p r ih=>
  intro l l' cs parts' h hr h1 h2;obtain⟨i,v⟩:=p;cases parts' with
  |nil=>simp at h1
  |cons q r'=>
   obtain⟨i',V⟩:=q;simp only[List.map_cons,List.cons.injEq]at h1 h2;obtain⟨rfl,h1⟩:=h1;obtain⟨u,us,e,hv,h3⟩:=h2;simp only[List.cons.injEq]at e;obtain⟨rfl,rfl⟩:=e;simp only[zds]at h;split at h
   ·cases h
   ·rename_i off n hp;split at h
    ·rename_i hb hle ho;have hb:=Nat.eq_of_beq_eq_true hb;have hle:=Nat.le_of_ble_eq_true hle;obtain⟨vs,e1,e2,_⟩:=hv.cells ho;have hlen:vs.length=n:=by rw[←e2.length,hb]
     have hsz:l.length=cs.size:=by rw[hr.length];simp
     obtain⟨cs',h4,h5⟩:=ih (cs:=(V.cells.zipIdx.foldl (fun cs(c,j)=>cs.setIfInBounds (off+j) c) cs)) h (by
      rw[e1];have:=zkB off vs cs (by omega);rw[this];exact hr.setL e2 off) h1 h3
     refine⟨cs',?_,h5⟩;simp only[Instr.fill,hp];have hc:¬((decide (V.cells.size≠n)||decide (off+V.cells.size>cs.size))=true):=by rw[e1];simp;omega
     rw[if_neg hc];exact h4
    ·cases h
theorem zc6(ev:Operand→AV):∀(l:List (Nat×Operand)),(Xb ev l).map (·.1)=l.map (·.1)
 |[]=>rfl
 |(i,x)::r=>by simp[Xb,zc6 ev r]
theorem zc5{ev:Operand→AV}{ρ:Operand→Value}(h:∀x,Rel L R (ev x) (ρ x)):∀(l:List (Nat×Operand)),RelL L R ((Xb ev l).map (·.2)) (l.map fun p=>ρ p.2)
 |[]=>rfl
 |(_i,x)::r=>⟨_,_,rfl,h x,zc5 h r⟩
theorem zeU(ρ:Operand→Value):∀(l:List (Nat×Operand)),zkt (fun x=>some (ρ x)) l=some (l.map fun p=>(p.1,ρ p.2))
 |[]=>rfl
 |(i,x)::r=>by simp[zkt,zeU ρ r]
theorem zeS(ρ:Operand→Value):∀(l:List Operand),ziD (fun x=>some (ρ x)) l=some (l.map ρ)
 |[]=>rfl
 |x::r=>by simp[ziD,zeS ρ r]
theorem YM{ev:Operand→AV}{ρ:Operand→Value}(h:∀x,Rel L R (ev x) (ρ x)):∀(l:List Operand),RelL L R (l.map ev) (l.map ρ)
 |[]=>rfl
 |x::r=>⟨_,_,rfl,h x,YM h r⟩
theorem YA{t:TypeId}{cs:List AV}(h:zeu P t=some cs):∃vs,zhW P t=some vs∧RelL L R cs vs:=by
 unfold zeu at h;split at h
 ·rename_i vs hv;cases h;exact⟨vs,hv,Jh vs⟩
 ·cases h
theorem znL{t:TypeId}{parts:List (Nat×AV)}{v:AV}{parts':List (Nat×Value)}(h:zk7 P t parts=some v)(h1:parts.map (·.1)=parts'.map (·.1))
  (h2:RelL L R (parts.map (·.2)) (parts'.map (·.2))):∃V,XS P t parts'=some V∧Rel L R v V:=by
 have zi:∀{z:List AV},zeu P t=some z→∃i zv,P.info? t=some i∧i.zero=some zv∧RelL L R z zv.cells.toList:=by
  intro z hz;obtain⟨vs,e1,e2⟩:=YA (L:=L) (R:=R) hz;unfold zhW at e1;split at e1
  ·rename_i i hi;split at e1
   ·rename_i zv hzv;cases e1;exact⟨i,zv,hi,hzv,e2⟩
   ·cases e1
  ·cases e1
 unfold zk7 at h;split at h
 ·rename_i fields z hu hz;obtain⟨i,zv,e1,e2,e3⟩:=zi hz;split at h
  ·rename_i places hp;split at h
   ·rename_i cs hf;cases h;obtain⟨cs',e4,e5⟩:=VG hf e3 h1 h2;exact⟨.agg cs',by simp only[XS,e1,hu,e2,hp,e4],⟨cs'.toList,rfl,e5⟩⟩
   ·cases h
  ·cases h
 ·rename_i n elem z hu hz;obtain⟨i,zv,e1,e2,e3⟩:=zi hz;split at h
  ·rename_i size hs;split at h
   ·rename_i cs hf;cases h;obtain⟨cs',e4,e5⟩:=VG hf e3 h1 h2;exact⟨.agg cs',by simp only[XS,e1,hu,e2,hs,e4],⟨cs'.toList,rfl,e5⟩⟩
   ·cases h
  ·cases h
 ·cases h
theorem RoRow.row{full:Bool}{n:Nat}{V:Value}{C:List Value→Prop}(h:RoRow R full n V C):∃a cap,V=.slice a n cap:=by
 rcases h with⟨rfl,a,cap,h,_⟩|⟨b,off,cap,cs,T,fr,seg,tl,h,_⟩
 ·exact⟨a,cap,h⟩
 ·exact⟨_,cap,h⟩
theorem RoRow.at_{full:Bool}{n:Nat}{V:Value}{C:List Value→Prop}(h:RoRow R full n V C)(hn:0<n):
  ∃b off cap cs T fr seg tl,V=.slice (some ⟨b,off,none⟩) n cap∧R b=some (.cells cs T fr)∧cs.toList.drop off=seg++tl∧C seg:=by
 rcases h with⟨rfl,_⟩|⟨b,off,cap,cs,T,fr,seg,tl,h1,_,_,h2,h3,h4⟩
 ·omega
 ·exact⟨b,off,cap,cs,T,fr,seg,tl,h1,h2,h3,h4⟩
theorem zU{i:Int}{n:Nat}:inIx i n=true↔0≤i∧i<(n:Int):=by simp[inIx]
theorem zS{lo hi:Int}{n:Nat}:zO lo hi n=true↔0≤lo∧lo≤hi∧hi≤(n:Int):=by simp[zO,and_assoc]
theorem zvt{G:List Res}{h:Heap}{R:Ro}{v:AV}{V:Value}{n:Int}(hn:zhh h v=some n)(hr:Rel (look G h) R v V):
  ∃a k cap,V=.slice a k cap∧n=(k:Int):=by
 unfold zhh at hn;split at hn
 ·cases hn;simp only[Rel]at hr;exact⟨none,0,0,hr,rfl⟩
 ·rename_i i;split at hn
  ·rename_i o ho;cases hn;obtain⟨f,h1,h2,h3⟩:=hr;obtain⟨o',r,h4,h5,rfl⟩:=zr h1;rw[ho]at h4;cases h4;cases hv:r.virt
   ·exact⟨_,_,_,h3 hv,rfl⟩
   ·have:=h2 hv;simp only at this;exact⟨_,_,_,this.2,by rw[this.1]⟩
  ·cases hn
 ·rename_i i;split at hn
  ·rename_i o ho;cases hn;obtain⟨f,h1,h2,h2',h3⟩:=hr;obtain⟨o',r,h4,h5,rfl⟩:=zr h1;rw[ho]at h4;cases h4;exact⟨_,_,_,h3,rfl⟩
  ·cases hn
 ·cases hn;obtain⟨f,_,h1,h2,h3,a,cap,rfl,_⟩:=hr;exact⟨a,_,cap,rfl,by omega⟩
 all_goals first
  |(cases hn;done)
  |(
   simp only[Option.some.injEq]at hn;subst hn;simp only[Rel]at hr;first
    |(obtain⟨f,_,⟨h1,h2,h3,a,cap,rfl,_⟩,_⟩:=hr;exact⟨a,_,cap,rfl,by omega⟩)
    |(obtain⟨a,cap,h⟩:=hr.row;exact⟨a,_,cap,h,rfl⟩)
    |(obtain⟨a,cap,h⟩:=hr.2.row;exact⟨a,_,cap,h,rfl⟩))
theorem zsj{l:List UInt8}{lo hi:Option AV}{v:AV}{lo' hi':Option Value}(h:zwF l lo hi=some (true,v))
  (hlo:match lo,lo' with|none,none=>True|some x,some X=>Rel L R x X|_,_=>False) (hhi:match hi,hi' with|none,none=>True|some x,some X=>Rel L R x X|_,_=>False):
  ∃c V,zfL (bs l) lo' hi'=some (c,V)∧jg c∧Rel L R v V:=by
 unfold zwF at h;split at h
 ·cases h;cases lo' with
  |some _=>exact hlo.elim
  |none=>cases hi' with
   |some _=>exact hhi.elim
   |none=>exact⟨_,_,rfl,trivial,rfl⟩
 ·rename_i k n;simp only[Option.some.injEq,Prod.mk.injEq]at h;obtain⟨h1,rfl⟩:=h;have h1:=zS.1 h1;cases lo' with
  |none=>exact hlo.elim
  |some X=>cases hi' with
   |some _=>exact hhi.elim
   |none=>simp only[Rel]at hlo;subst hlo;exact⟨_,_,rfl,by(simp only[jg,Yw];try omega),by simp only[Rel,Yw]⟩
 ·rename_i k n;simp only[Option.some.injEq,Prod.mk.injEq]at h;obtain⟨h1,rfl⟩:=h;have h1:=zS.1 h1;cases lo' with
  |some _=>exact hlo.elim
  |none=>cases hi' with
   |none=>exact hhi.elim
   |some X=>simp only[Rel]at hhi;subst hhi;exact⟨_,_,rfl,by(simp only[jg,Yw];try omega),by simp only[Rel,Yw]⟩
 ·rename_i k n k' n';simp only[Option.some.injEq,Prod.mk.injEq]at h;obtain⟨h1,rfl⟩:=h;have h1:=zS.1 h1;cases lo' with
  |none=>exact hlo.elim
  |some X=>cases hi' with
   |none=>exact hhi.elim
   |some Y=>simp only[Rel]at hlo hhi;subst hlo hhi;exact⟨_,_,rfl,by(simp only[jg,Yw];try omega),by simp only[Rel,Yw]⟩
 ·cases h
theorem qc:∀(a b:List AV),idsL (a++b)=idsL a++idsL b
 |[],_=>rfl
 |v::r,b=>by simp[idsL,qc r b]
theorem QX:∀{l:List AV}{i:Nat}{v:AV},idsL l=[]→l[i]? =some v→idsV v=[]
 |[],_,_,_,h=>by simp at h
 |x::r,0,v,h0,h=>by simp at h;subst h;simp[idsL]at h0;exact h0.1
 |x::r,i+1,v,h0,h=>by simp[idsL]at h0;exact QX h0.2 (by simpa using h)
theorem zj0{v:AV}{V:Value}(h0:idsV v=[])(h1:zJ v=true)(h:∃b off ce T fr u tl,V=.pointer (some ⟨b,off,none⟩)∧R b=some (.cells ce T fr)∧ce.toList.drop off=u::tl∧Rel L R v u):Rel L R (.rp v) V:=by
 cases v with
 |agg cs=>cases h1
 |_=>exact⟨h0,h1,h⟩
theorem ZN{z:Nat}:∀{l:List AV}{cs:List Value},RelR L R z l cs→cs.length=l.length*z
 |[],cs,h=>by have h:cs=[]:=h;subst h;simp
 |x::r,cs,hr=>by
  have key:(∃a b,cs=a++b∧a.length=z∧RelR L R z r b)∨(∃u us,cs=u::us∧z=1∧RelR L R z r us):=by
   cases x with
   |agg xs=>obtain⟨a,b,h1,h2,h3,h4⟩:=hr;exact .inl ⟨a,b,h1,by rw[←h3.length,h2],h4⟩
   |_=>obtain⟨u,us,h1,h2,h3,h4,h5⟩:=hr;exact .inr ⟨u,us,h1,h2,h5⟩
  rcases key with⟨a,b,rfl,h2,h3⟩|⟨u,us,rfl,rfl,h3⟩
  ·rw[List.length_append,h2,ZN h3,List.length_cons,Nat.succ_mul,Nat.add_comm]
  ·rw[List.length_cons,ZN h3,List.length_cons];omega
theorem RelR_get'{z:Nat}:∀{l:List AV}{cs:List Value},RelR L R z l cs→∀{i:Nat}{v:AV},l[i]? =some v→
  (∃xs,v=.agg xs∧xs.length=z∧RelL L R xs ((cs.drop (i*z)).take z))∨(zJ v=true∧z=1∧∃u,cs[i]? =some u∧Rel L R v u)
 |[],_,_,i,v,h=>by simp at h
 |x::r,cs,hr,i,v,h=>by
  have key:(∃xs a b,x=.agg xs∧cs=a++b∧xs.length=z∧RelL L R xs a∧RelR L R z r b)∨(∃u us,cs=u::us∧z=1∧zJ x=true∧Rel L R x u∧RelR L R z r us):=by
   cases x with
   |agg xs=>obtain⟨a,b,h1,h2,h3,h4⟩:=hr;exact .inl ⟨xs,a,b,rfl,h1,h2,h3,h4⟩
   |_=>obtain⟨u,us,h1,h2,h3,h4,h5⟩:=hr;exact .inr ⟨u,us,h1,h2,h3,h4,h5⟩
  rcases key with⟨xs,a,b,rfl,rfl,h2,h3,h4⟩|⟨u,us,rfl,rfl,h3,h4,h5⟩
  ·have ha:a.length=z:=by rw[←h3.length,h2]
   cases i with
   |zero=>simp only[List.getElem?_cons_zero,Option.some.injEq]at h;subst h;refine .inl ⟨xs,rfl,h2,?_⟩;rw[Nat.zero_mul,List.drop_zero,List.take_append_of_le_length (by omega),List.take_of_length_le (by omega)];exact h3
   |succ i=>
    simp only[List.getElem?_cons_succ]at h;have hd:((a++b).drop ((i+1)*z))=b.drop (i*z):=by rw[Nat.succ_mul,Nat.add_comm,←List.drop_drop,←ha,List.drop_left]
    rcases RelR_get' h4 h with⟨ys,e1,e2,e3⟩|⟨e1,e2,u,e3,e4⟩
    ·exact .inl ⟨ys,e1,e2,by rw[hd];exact e3⟩
    ·refine .inr ⟨e1,e2,u,?_,e4⟩;subst e2;rw[List.getElem?_append_right (by omega),ha];simpa using e3
  ·cases i with
   |zero=>simp only[List.getElem?_cons_zero,Option.some.injEq]at h;subst h;exact .inr ⟨h3,rfl,u,rfl,h4⟩
   |succ i=>
    simp only[List.getElem?_cons_succ]at h;rcases RelR_get' h5 h with⟨ys,e1,e2,e3⟩|⟨e1,e2,u',e3,e4⟩
    ·refine .inl ⟨ys,e1,e2,?_⟩;rw[show(i+1)*1=i*1+1 by omega,List.drop_succ_cons];exact e3
    ·exact .inr ⟨e1,e2,u',by simpa using e3,e4⟩
theorem zeI{v x:AV}(h:zlu v=some (true,x)):zJ v=true∧zJ x=true∧(∀L R V,Rel L R v V→Rel L R x V)∧(idsV v=[]→idsV x=[]):=by
 unfold zlu at h;split at h
 ·cases h;exact⟨rfl,rfl,fun _ _ _ h=>h,fun h=>h⟩
 ·cases h;exact⟨rfl,rfl,fun _ _ _ h=>h,fun h=>h⟩
 ·cases h;exact⟨rfl,rfl,fun _ _ _ h=>h,fun h=>h⟩
 ·cases h
theorem QV{sy:Bool}{t:TypeId}{v x:AV}(h:zeW P sy t v=some (true,x)):zw P t=some false∧zJ v=true∧zJ x=true∧(∀L R V,Rel L R v V→Rel L R x V)∧(idsV v=[]→idsV x=[]):=by
 unfold zeW at h;split at h
 ·rename_i hu;simp only[Option.some.injEq,Prod.mk.injEq]at h;obtain⟨h1,rfl⟩:=h;unfold zF at h1;split at h1
  ·rename_i k n;simp only[kEq,decide_eq_true_eq]at h1;subst h1;exact⟨by simp[zw,hu],rfl,rfl,fun _ _ _ h=>h,fun h=>h⟩
  ·cases h1
 ·rename_i hu;simp only[Option.some.injEq,Prod.mk.injEq]at h;obtain⟨h1,rfl⟩:=h;split at h1
  ·exact⟨by simp[zw,hu],rfl,rfl,fun _ _ _ h=>h,fun h=>h⟩
  ·cases h1
 ·rename_i hu;simp only[Option.some.injEq,Prod.mk.injEq]at h;obtain⟨h1,rfl⟩:=h;split at h1
  ·exact⟨by simp[zw,hu],rfl,rfl,fun _ _ _ h=>h,fun h=>h⟩
  ·cases h1
 ·rename_i hu;split at h
  ·cases h;exact⟨by simp[zw,hu],rfl,rfl,fun _ _ _ h=>h,fun h=>h⟩
  ·cases h
 ·rename_i e hu;split at h
  ·simp only[Option.some.injEq,Prod.mk.injEq]at h;obtain⟨h1,rfl⟩:=h;refine⟨by simp[zw,hu],?_,rfl,?_,fun _=>rfl⟩
   ·unfold zhj at h1;split at h1
    ·rfl
    ·rfl
    ·cases h1
   ·intro L R V hV;unfold zhj at h1;split at h1
    ·rename_i f l;rcases hV with⟨a,b,c,d,_⟩|⟨b,off,cap,cs,T,fr,seg,tl,g1,_,g3⟩
     ·exact .inl ⟨a,b,c,d,fun h=>by cases h⟩
     ·exact .inr ⟨b,off,cap,cs,T,fr,seg,tl,g1,fun h=>(by cases h),g3⟩
    ·have hV:V=.slice none 0 0:=hV;exact .inl ⟨rfl,none,0,hV,fun h=>by cases h⟩
    ·cases h1
  ·rename_i k _ _;simp only[Option.some.injEq,Prod.mk.injEq]at h;obtain⟨h1,rfl⟩:=h;refine⟨by simp[zw,hu],?_,rfl,?_,fun _=>rfl⟩
   ·unfold zkx at h1;split at h1
    ·rfl
    ·rfl
    ·cases h1
   ·intro L R V hV;unfold zkx at h1;split at h1
    ·rename_i f k' l;simp only[kEq,decide_eq_true_eq]at h1;subst h1;rcases hV with⟨a,b,c,d,_⟩|⟨b,off,cap,cs,T,fr,seg,tl,g1,_,g3⟩
     ·exact .inl ⟨a,b,c,d,fun h=>by cases h⟩
     ·exact .inr ⟨b,off,cap,cs,T,fr,seg,tl,g1,fun h=>(by cases h),g3⟩
    ·have hV:V=.slice none 0 0:=hV;exact .inl ⟨rfl,none,0,hV,fun h=>by cases h⟩
    ·cases h1
  ·split at h
   ·split at h
    ·rename_i n hn;simp only[Option.some.injEq,Prod.mk.injEq]at h;obtain⟨h1,rfl⟩:=h;refine⟨by simp[zw,hu],?_,rfl,?_,fun _=>rfl⟩
     ·unfold zdi at h1;split at h1
      ·rfl
      ·rfl
      ·cases h1
     ·intro L R V hV;unfold zdi at h1;split at h1
      ·rename_i f z l;have h1:=Nat.eq_of_beq_eq_true h1;subst h1;obtain⟨h0,hV⟩:=hV;refine⟨h0,?_⟩;rcases hV with⟨a,b,c,d,_⟩|⟨b,off,cap,cs,T,fr,seg,tl,g1,_,g3⟩
       ·exact .inl ⟨a,b,c,d,fun h=>by cases h⟩
       ·exact .inr ⟨b,off,cap,cs,T,fr,seg,tl,g1,fun h=>(by cases h),g3⟩
      ·have hV:V=.slice none 0 0:=hV;exact⟨rfl,.inl ⟨rfl,none,0,hV,fun h=>by cases h⟩⟩
      ·cases h1
    ·cases h
   ·obtain⟨g1,g2,g3,g4⟩:=zeI h;exact⟨by simp[zw,hu],g1,g2,g3,g4⟩
  ·obtain⟨g1,g2,g3,g4⟩:=zeI h;exact⟨by simp[zw,hu],g1,g2,g3,g4⟩
 ·cases h
theorem ZK{cs:List AV}{k:Nat}(hk:k<cs.length):cs[k]? =some (cellOf (.agg cs) k):=by simp only[cellOf,List.getElem?_eq_getElem hk]
theorem zae{sy:Bool}{e:TypeId}{cs:List AV}:∀{n k:Nat}{xs:List AV},Vu P sy e (.agg cs) n k=some (true,xs)→k+xs.length≤cs.length→
  (∀L R vs,RelL L R cs vs→RelL L R xs ((vs.drop k).take xs.length))∧(idsL cs=[]→idsL xs=[])
 |0,_,xs,h,_=>by simp only[Vu,Option.some.injEq,Prod.mk.injEq]at h;obtain⟨-,rfl⟩:=h;exact⟨fun _ _ _ _=>by simp[RelL],fun _=>rfl⟩
 |n+1,k,xs,h,hl=>by
  simp only[Vu]at h;split at h
  ·rename_i d x e ys h2 h3;simp only[Option.some.injEq,Prod.mk.injEq,Bool.and_eq_true]at h;obtain⟨⟨rfl,rfl⟩,rfl⟩:=h;simp only[List.length_cons]at hl⊢;have hk:k<cs.length:=by omega
   obtain⟨_,_,_,g1,g2⟩:=QV h2;obtain⟨i1,i2⟩:=zae h3 (by omega);refine⟨fun L R vs hr=>?_,fun h0=>?_⟩
   ·obtain⟨V,e1,e2⟩:=hr.get (ZK hk);obtain⟨hlt,rfl⟩:=List.getElem?_eq_some_iff.1 e1;rw[List.drop_eq_getElem_cons hlt,List.take_succ_cons];exact⟨_,_,rfl,g1 _ _ _ e2,i1 _ _ _ hr⟩
   ·simp only[idsL,g2 (QX h0 (ZK hk)),i2 h0,List.append_nil]
  ·cases h
theorem zaf{sy:Bool}{cs:List AV}:∀{fs:List (Nat×TypeId)}{k:Nat}{xs:List AV},Vv P sy (.agg cs) fs k=some (true,xs)→k+xs.length≤cs.length→
  (∀L R vs,RelL L R cs vs→RelL L R xs ((vs.drop k).take xs.length))∧(idsL cs=[]→idsL xs=[])
 |[],_,xs,h,_=>by simp only[Vv,Option.some.injEq,Prod.mk.injEq]at h;obtain⟨-,rfl⟩:=h;exact⟨fun _ _ _ _=>by simp[RelL],fun _=>rfl⟩
 |f::r,k,xs,h,hl=>by
  simp only[Vv]at h;split at h
  ·rename_i d x e ys h1 h2 h3;simp only[Option.some.injEq,Prod.mk.injEq,Bool.and_eq_true]at h;obtain⟨⟨rfl,rfl⟩,rfl⟩:=h;simp only[List.length_cons]at hl⊢;have hk:k<cs.length:=by omega
   obtain⟨_,_,_,g1,g2⟩:=QV h2;obtain⟨i1,i2⟩:=zaf h3 (by omega);refine⟨fun L R vs hr=>?_,fun h0=>?_⟩
   ·obtain⟨V,e1,e2⟩:=hr.get (ZK hk);obtain⟨hlt,rfl⟩:=List.getElem?_eq_some_iff.1 e1;rw[List.drop_eq_getElem_cons hlt,List.take_succ_cons];exact⟨_,_,rfl,g1 _ _ _ e2,i1 _ _ _ hr⟩
   ·simp only[idsL,g2 (QX h0 (ZK hk)),i2 h0,List.append_nil]
  ·cases h
theorem zc8{v:AV}{n:Nat}(h:qQ v n=true):∃cs,v=.agg cs∧cs.length=n:=by
 unfold qQ at h;split at h
 ·exact⟨_,rfl,Nat.eq_of_beq_eq_true h⟩
 ·cases h
theorem shapeA_rel{sy:Bool}{t:TypeId}{v x:AV}(h:zcC P sy t v=some (true,x)):
  (zw P t=some true∧∃cs xs,v=.agg cs∧x=.agg xs∧xs.length=cs.length∧(∀L R vs,RelL L R cs vs→RelL L R xs vs)∧(idsL cs=[]→idsL xs=[]))∨
  (zw P t=some false∧zJ v=true∧zJ x=true∧(∀L R V,Rel L R v V→Rel L R x V)∧(idsV v=[]→idsV x=[])):=by
 have whole:∀{cs xs:List AV},cs.length=xs.length→(∀L R vs,RelL L R cs vs→RelL L R xs ((vs.drop 0).take xs.length))→∀L R vs,RelL L R cs vs→RelL L R xs vs:=by intro cs xs h1 h2 L R vs hr;have:=h2 L R vs hr;rwa [List.drop_zero,List.take_of_length_le (by rw[←h1,hr.length];exact Nat.le_refl _)]at this
 unfold zcC at h;split at h
 ·rename_i fs hu;split at h
  ·split at h
   rotate_left
   ·cases h
   rename_i c xs hl;simp only[Option.some.injEq,Prod.mk.injEq,Bool.and_eq_true]at h;obtain⟨⟨h1,rfl⟩,rfl⟩:=h;obtain⟨cs,rfl,h5⟩:=zc8 h1;obtain⟨i1,i2⟩:=zaf hl (by omega);exact .inl ⟨by simp[zw,hu],cs,xs,rfl,rfl,h5.symm,whole h5 i1,i2⟩
  ·cases h
 ·rename_i n e hu;split at h
  ·rename_i c xs hl;simp only[Option.some.injEq,Prod.mk.injEq,Bool.and_eq_true]at h;obtain⟨⟨h1,rfl⟩,rfl⟩:=h;obtain⟨cs,rfl,h5⟩:=zc8 h1;obtain⟨i1,i2⟩:=zae hl (by omega);exact .inl ⟨by simp[zw,hu],cs,xs,rfl,rfl,h5.symm,whole h5 i1,i2⟩
  ·cases h
 ·exact .inr (QV h)
theorem zd2{z:Nat}:∀(i:Nat){l:List AV}{cs:List Value},RelR L R z l cs→RelR L R z (l.drop i) (cs.drop (i*z))
 |0,l,cs,h=>by simpa using h
 |i+1,[],cs,h=>by have h:cs=[]:=h;subst h;simp[RelR]
 |i+1,x::r,cs,hr=>by
  have key:(∃a b,cs=a++b∧a.length=z∧RelR L R z r b):=by
   cases x with
   |agg xs=>obtain⟨a,b,h1,h2,h3,h4⟩:=hr;exact⟨a,b,h1,by rw[←h3.length,h2],h4⟩
   |_=>obtain⟨u,us,h1,h2,h3,h4,h5⟩:=hr;exact⟨[u],us,h1,by simp[h2],h5⟩
  obtain⟨a,b,rfl,h2,h3⟩:=key;have:=zd2 i h3;rw[List.drop_succ_cons,Nat.succ_mul,Nat.add_comm,←List.drop_drop,←h2,List.drop_left,h2];exact this
theorem XW{z:Nat}:∀(i:Nat){l:List AV}{cs:List Value},RelR L R z l cs→RelR L R z (l.take i) (cs.take (i*z))
 |0,l,cs,h=>by simp[RelR]
 |i+1,[],cs,h=>by have h:cs=[]:=h;subst h;simp[RelR]
 |i+1,x::r,cs,hr=>by
  cases x with
  |agg xs=>
   obtain⟨a,b,rfl,h2,h3,h4⟩:=hr;have ha:a.length=z:=by rw[←h3.length,h2]
   rw[List.take_succ_cons,Nat.succ_mul,Nat.add_comm,←ha,List.take_length_add_append,ha];exact⟨a,_,rfl,h2,h3,XW i h4⟩
  |_=>obtain⟨u,us,rfl,rfl,h3,h4,h5⟩:=hr;have:=XW i h5;rw[Nat.mul_one]at this;rw[Nat.mul_one,List.take_succ_cons,List.take_succ_cons];exact⟨u,_,rfl,rfl,h3,h4,this⟩
end
end Go.Am
