/-
  A part of the proof of the laws.
-/
import Derived.Test.YtkinagkcgpffpaaGreatDoorAm4
namespace Go.Am
open Go Go.RowKit Go.Vc
section
variable {P : Program} {L : Lk} {R : Ro}
theorem zg2{k:IntKind}{n:Int}{v:AV}(h:zkx k n=(true,v)):∃m:Vc.Mode,∃c V,m.int k n=(c,V)∧jd c∧Rel L R v V:=by
 unfold zkx at h;split at h
 ·simp only[Prod.mk.injEq]at h;obtain⟨h1,rfl⟩:=h;exact⟨.exact,_,_,rfl,Qe.1 h1,rfl⟩
 ·simp only[Prod.mk.injEq]at h;obtain⟨-,rfl⟩:=h;exact⟨.wrap,_,_,rfl,trivial,rfl⟩
theorem zhd(a b:Int):(a==b)=decide (a=b):=by by_cases h:a=b<;>simp[h]
theorem zvA(a b:Int):(a !=b)=!decide (a=b):=by by_cases h:a=b<;>simp[h]
theorem zdl(a b:List UInt8):(a==b)=decide (a=b):=by by_cases h:a=b<;>simp[h]
theorem zdm(a b:Bool):(a==b)=decide (a=b):=by cases a<;>cases b<;>rfl
theorem WL{op:BinOp}{k:IntKind}{a b:Int}{v:AV}(h:zkY op k a b=some (true,v)):
  ∃m:Vc.Mode,∃c V,zi6 m op k a b=some (c,V)∧jd c∧Rel L R v V:=by
 unfold zkY at h;split at h;case h_4|h_5=>
  simp only[Option.some.injEq,Prod.mk.injEq,Bool.and_eq_true,decide_eq_true_eq,yP]at h;first
   |(obtain⟨⟨⟨h1,h2⟩,h3⟩,rfl⟩:=h;exact⟨.exact,_,_,rfl,⟨h1,h2,Qe.1 h3⟩,rfl⟩)
   |(obtain⟨⟨h1,h2⟩,rfl⟩:=h;exact⟨.exact,_,_,rfl,And.intro h1 h2,rfl⟩)
 case h_6|h_7|h_8=>cases h;exact⟨.exact,none,_,rfl,trivial,rfl⟩
 case h_9=>
  split at h
  ·rename_i cc hc;simp only[Option.some.injEq,Prod.mk.injEq,true_and]at h;subst h;refine⟨.exact,none,.bool cc,?_,trivial,rfl⟩;unfold zx3 at hc;split at hc<;>simp only[Option.some.injEq,reduceCtorEq]at hc<;>subst hc<;>simp only[zi6,zhd,zvA]
  ·cases h
 all_goals
  simp only[Option.some.injEq]at h;obtain⟨m,c,V,h1,h2,h3⟩:=zg2 (L:=L) (R:=R) h;exact⟨m,c,V,by simp only[zi6,h1],h2,h3⟩
theorem zkV{op:BinOp}{a b:List UInt8}{v:AV}(h:zho op a b=some (true,v)):
  ∃c V,zkW op (bl (bs a)) (bl (bs b))=some (c,V)∧jd c∧Rel L R v V:=by
 simp only[Yl];unfold zho at h;split at h<;>simp only[Option.some.injEq,Prod.mk.injEq,true_and,reduceCtorEq]at h
 ·obtain⟨h1,rfl⟩:=h;have h1:=zeJ.1 h1;exact⟨_,_,rfl,by show _≤_;omega,rfl⟩
 all_goals
  subst h;exact⟨_,_,rfl,trivial,by simp only[Rel,zdl]⟩
theorem zmi:∀{fs:List Field}{n:Nat}{xs ys:List AV}{Xs Ys:List Value}{b:Bool}{d0:Nat},zhc P fs n xs ys=some b→
  RelL L R xs (Xs.drop n)→RelL L R ys (Ys.drop n)→ZH P (j8 P (d0+1)) Xs Ys fs=some b:=by
 intro fs;induction fs with
 |nil=>intro n xs ys Xs Ys b d0 he _ _;cases xs<;>cases ys<;>simp only[zhc,reduceCtorEq,Option.some.injEq]at he;subst he;rfl
 |cons f r ih=>
  intro n xs ys Xs Ys b d0 he rx ry
  match xs,ys,he,rx,ry with
  |[],_,he,_,_=>simp[zhc]at he
  |x::xr,[],he,_,_=>simp[zhc]at he
  |x::xr,y::yr,he,rx,ry=>
   obtain⟨X,Xr,e1,r1,r2⟩:=rx;obtain⟨Y,Yr,e2,r3,r4⟩:=ry;have eX:Xs[n]? =some X:=by have:=congrArg (·[0]?) e1;simpa[List.getElem?_drop]using this
   have eY:Ys[n]? =some Y:=by have:=congrArg (·[0]?) e2;simpa[List.getElem?_drop]using this
   have dX:Xs.drop (n+1)=Xr:=by have:=congrArg (List.drop 1) e1;simpa[List.drop_drop,Nat.add_comm]using this
   have dY:Ys.drop (n+1)=Yr:=by have:=congrArg (List.drop 1) e2;simpa[List.drop_drop,Nat.add_comm]using this
   simp only[zhc]at he;split at he
   ·rename_i c h1 h2 h3 h4;have h1:=Nat.eq_of_beq_eq_true h1;have ih':=ih (d0:=d0) h4 (by rw[dX];exact r2) (by rw[dY];exact r4);have key:∃d,zw P f.type=some false∧j8 P (d0+1) f.type X Y=some d∧b=(d&&c):=by
     split at he
     ·rename_i p q hu;cases he;simp only[Rel]at r1 r3;subst r1 r3;exact⟨decide (p=q),by simp[zw,hu],by simp only[j8,hu,zdm],rfl⟩
     ·rename_i kk k p k' q hu;split at he
      ·rename_i hk;cases he;simp only[Rel]at r1 r3;subst r1 r3;exact⟨decide (p=q),by simp[zw,hu],by simp only[j8,hu,hk,if_true,zhd],rfl⟩
      ·cases he
     ·rename_i p q hu;cases he;simp only[Rel]at r1 r3;subst r1 r3;exact⟨decide (p=q),by simp[zw,hu],by simp only[j8,hu,Yl,zdl],rfl⟩
     ·cases he
    obtain⟨d,hagg,heq,rfl⟩:=key;have pX:zP P f.type Xs f.offset=some X:=by unfold zP;rw[hagg,h3,h1];exact eX
    have pY:zP P f.type Ys f.offset=some Y:=by unfold zP;rw[hagg,h3,h1];exact eY
    cases r with
    |nil=>
     have hc:c=true:=by cases xr<;>cases yr<;>simp only[zhc,reduceCtorEq,Option.some.injEq]at h4;exact h4.symm
     subst hc;simp only[ZH,h2,pX,pY,heq,Bool.and_true];rfl
    |cons g s=>
     rw[ZH]
     ·simp only[h2,pX,pY,heq,ih'];rfl
     ·intro hh;cases hh
   ·cases he
theorem QX{F:TypeId→Value→Value→Option Bool}{xs ys:List Value}{f:Field}{r:List Field}{b c:Bool}(h1:ZH P F xs ys [f]=some b)(h2:ZH P F xs ys r=some c):
  ZH P F xs ys (f::r)=some (b&&c):=by
 cases r with
 |nil=>simp only[ZH,Option.some.injEq]at h2;subst h2;rw[Bool.and_true];exact h1
 |cons g s=>
  rw[ZH]at h1;rw[ZH]
  ·split at h1
   ·cases h1
   ·rename_i hn;rw[if_neg hn];split at h1
    ·rename_i a b' ha hb;simp only[h1,h2]
    ·cases h1
  ·intro hh;cases hh
theorem zrw{t:TypeId}{x y:AV}{X Y:Value}{b:Bool}{d:Nat}(h:eq1 P t x y=some b)(hx:Rel L R x X)(hy:Rel L R y Y):zw P t=some false∧j8 P (d+1) t X Y=some b:=by
 unfold eq1 at h;split at h
 ·rename_i p q hu;cases h;simp only[Rel]at hx hy;subst hx hy;exact⟨by simp[zw,hu],by simp only[j8,hu,zdm]⟩
 ·rename_i kk k p k' q hu;split at h
  ·rename_i hk;cases h;simp only[Rel]at hx hy;subst hx hy;exact⟨by simp[zw,hu],by simp only[j8,hu,hk,if_true,zhd]⟩
  ·cases h
 ·rename_i p q hu;cases h;simp only[Rel]at hx hy;subst hx hy;exact⟨by simp[zw,hu],by simp only[j8,hu,Yl,zdl]⟩
 ·cases h
theorem zvy:∀{fs:List Field}{n:Nat}{xs ys:List AV}{Xs Ys:List Value}{b:Bool},znk P fs n xs ys=some b→
  RelL L R xs (Xs.drop n)→RelL L R ys (Ys.drop n)→ZH P (j8 P 7) Xs Ys fs=some b:=by
 intro fs;induction fs with
 |nil=>intro n xs ys Xs Ys b he _ _;cases xs<;>cases ys<;>simp only[znk,reduceCtorEq,Option.some.injEq]at he;subst he;rfl
 |cons f r ih=>
  intro n xs ys Xs Ys b he rx ry;simp only[znk]at he;split at he
  ·rename_i k gs h1 h2 h3 h4;split at he
   ·rename_i b1 c1 g1 g2 g3 g4 g5;cases he;have h1:=Nat.eq_of_beq_eq_true h1;have g2:=Nat.le_of_ble_eq_true g2;have g3:=Nat.le_of_ble_eq_true g3;have ih':=ih g5 (by have:=rx.drop (k+1);rwa [List.drop_drop]at this) (by have:=ry.drop (k+1);rwa [List.drop_drop]at this);have hagg:zw P f.type=some true:=by simp[zw,h4]
    have e:=zmi (Xs:=(Xs.drop n).take (k+1)) (Ys:=(Ys.drop n).take (k+1)) (d0:=5) g4 (by simpa using rx.take (k+1)) (by simpa using ry.take (k+1));refine QX ?_ ih';have pX:zP P f.type Xs f.offset=some (.agg ((Xs.drop n).take (k+1)).toArray):=by unfold zP;rw[hagg,h3,h1]
    have pY:zP P f.type Ys f.offset=some (.agg ((Ys.drop n).take (k+1)).toArray):=by unfold zP;rw[hagg,h3,h1]
    have e7:j8 P 7 f.type (.agg ((Xs.drop n).take (k+1)).toArray) (.agg ((Ys.drop n).take (k+1)).toArray)=some b1:=by simp only[j8,h4,g1,Bool.false_eq_true,if_false];exact e
    simp only[ZH,h2,pX,pY,e7,Bool.false_eq_true,if_false]
   ·cases he
  ·rename_i _ h1 h2 h3 _;split at he
   ·rename_i x xr y yr;split at he
    ·rename_i b1 c1 g1 g2;cases he;have h1:=Nat.eq_of_beq_eq_true h1;obtain⟨X,Xr,e1,r1,r2⟩:=rx;obtain⟨Y,Yr,e2,r3,r4⟩:=ry;have eX:Xs[n]? =some X:=by have:=congrArg (·[0]?) e1;simpa[List.getElem?_drop]using this
     have eY:Ys[n]? =some Y:=by have:=congrArg (·[0]?) e2;simpa[List.getElem?_drop]using this
     have dX:Xs.drop (n+1)=Xr:=by have:=congrArg (List.drop 1) e1;simpa[List.drop_drop,Nat.add_comm]using this
     have dY:Ys.drop (n+1)=Yr:=by have:=congrArg (List.drop 1) e2;simpa[List.drop_drop,Nat.add_comm]using this
     obtain⟨hagg,heq⟩:=zrw (d:=6) g1 r1 r3;have pX:zP P f.type Xs f.offset=some X:=by unfold zP;rw[hagg,h3,h1];exact eX
     have pY:zP P f.type Ys f.offset=some Y:=by unfold zP;rw[hagg,h3,h1];exact eY
     refine QX ?_ (ih g2 (by rw[dX];exact r2) (by rw[dY];exact r4));simp only[ZH,h2,pX,pY,heq,Bool.false_eq_true,if_false]
    ·cases he
   ·cases he
  ·cases he
theorem zhb{F:List Field→List AV→List AV→Bool→Option Bool}{D:Nat}
  (hF:∀{gs:List Field}{xs ys:List AV}{Xs Ys:List Value}{c b:Bool},F gs xs ys c=some b→RelL L R xs Xs→RelL L R ys Ys→∃b0,b=(b0&&c)∧ZH P (j8 P D) Xs Ys gs=some b0):
  ∀{fs:List Field}{n:Nat}{xs ys:List AV}{Xs Ys:List Value}{c b:Bool},ziN P F fs n xs ys c=some b→
  RelL L R xs (Xs.drop n)→RelL L R ys (Ys.drop n)→∃b0,b=(b0&&c)∧ZH P (j8 P (D+1)) Xs Ys fs=some b0:=by
 intro fs;induction fs with
 |nil=>intro n xs ys Xs Ys c b he _ _;cases xs<;>cases ys<;>simp only[ziN,reduceCtorEq,Option.some.injEq]at he;subst he;exact⟨true,by simp,rfl⟩
 |cons f r ih=>
  intro n xs ys Xs Ys c b he rx ry;simp only[ziN]at he;split at he
  ·rename_i k gs h1 h2 h3 h4;split at he
   ·rename_i d1 g1 g2 g3 g5;have h1:=Nat.eq_of_beq_eq_true h1;have g2:=Nat.le_of_ble_eq_true g2;have g3:=Nat.le_of_ble_eq_true g3;obtain⟨b2,rfl,ih'⟩:=ih g5 (by have:=rx.drop (k+1);rwa [List.drop_drop]at this) (by have:=ry.drop (k+1);rwa [List.drop_drop]at this);have hagg:zw P f.type=some true:=by simp[zw,h4]
    obtain⟨b1,rfl,e⟩:=hF he (Xs:=(Xs.drop n).take (k+1)) (Ys:=(Ys.drop n).take (k+1)) (rx.take (k+1)) (ry.take (k+1));refine⟨b1&&b2,by rw[Bool.and_assoc],QX ?_ ih'⟩;have pX:zP P f.type Xs f.offset=some (.agg ((Xs.drop n).take (k+1)).toArray):=by unfold zP;rw[hagg,h3,h1]
    have pY:zP P f.type Ys f.offset=some (.agg ((Ys.drop n).take (k+1)).toArray):=by unfold zP;rw[hagg,h3,h1]
    have e7:j8 P (D+1) f.type (.agg ((Xs.drop n).take (k+1)).toArray) (.agg ((Ys.drop n).take (k+1)).toArray)=some b1:=by simp only[j8,h4,g1,Bool.false_eq_true,if_false];exact e
    simp only[ZH,h2,pX,pY,e7,Bool.false_eq_true,if_false]
   ·cases he
  ·rename_i _ h1 h2 h3 _;split at he
   ·rename_i x xr y yr;split at he
    ·rename_i b1 d1 g1 g2;cases he;have h1:=Nat.eq_of_beq_eq_true h1;obtain⟨X,Xr,e1,r1,r2⟩:=rx;obtain⟨Y,Yr,e2,r3,r4⟩:=ry;have eX:Xs[n]? =some X:=by have:=congrArg (·[0]?) e1;simpa[List.getElem?_drop]using this
     have eY:Ys[n]? =some Y:=by have:=congrArg (·[0]?) e2;simpa[List.getElem?_drop]using this
     have dX:Xs.drop (n+1)=Xr:=by have:=congrArg (List.drop 1) e1;simpa[List.drop_drop,Nat.add_comm]using this
     have dY:Ys.drop (n+1)=Yr:=by have:=congrArg (List.drop 1) e2;simpa[List.drop_drop,Nat.add_comm]using this
     obtain⟨hagg,heq⟩:=zrw (d:=D) g1 r1 r3;have pX:zP P f.type Xs f.offset=some X:=by unfold zP;rw[hagg,h3,h1];exact eX
     have pY:zP P f.type Ys f.offset=some Y:=by unfold zP;rw[hagg,h3,h1];exact eY
     obtain⟨b2,rfl,ih'⟩:=ih g2 (by rw[dX];exact r2) (by rw[dY];exact r4);refine⟨b1&&b2,by rw[Bool.and_assoc],QX ?_ ih'⟩;simp only[ZH,h2,pX,pY,heq,Bool.false_eq_true,if_false]
    ·cases he
   ·cases he
  ·cases he
theorem zvx{fs:List Field}{xs ys:List AV}{Xs Ys:List Value}{b:Bool}(h:zxZ P fs xs ys=some b)(rx:RelL L R xs Xs)(ry:RelL L R ys Ys):ZH P (j8 P 7) Xs Ys fs=some b:=by obtain⟨b0,rfl,e⟩:=zhb (L:=L) (R:=R) (D:=6) (fun h1 r1 r2=>zhb (L:=L) (R:=R) (D:=5) (fun h2 r3 r4=>zhb (L:=L) (R:=R) (D:=4) (fun h3 _ _=>by cases h3) h2 (by simpa using r3) (by simpa using r4)) h1 (by simpa using r1) (by simpa using r2)) h (by simpa using rx) (by simpa using ry);rw[Bool.and_true];exact e
theorem RoRow.sliced{R:Ro}{full:Bool}{n:Nat}{V:Value}{C:List Value→Prop}(h:RoRow R full n V C)(hn:n≠0):∃a n cp,V=.slice (some a) n cp:=by
 rcases h with⟨h,_⟩|⟨b,off,cap,cs,T,fr,seg,tl,h,_⟩
 ·exact absurd h hn
 ·exact⟨_,_,_,h⟩
theorem zac{x:AV}{X:Value}{c:Bool}(h:zdb x=some (true,c))(hx:Rel L R x X):∃a n cp,X=.slice a n cp∧c=a.isNone:=by
 have ro:∀{full:Bool}{n:Nat}{C:List Value→Prop},Nat.ble 1 n=true→RoRow R full n X C→∃a n cp,X=.slice (some a) n cp:=fun hn hr=>RoRow.sliced hr (by have:=Nat.le_of_ble_eq_true hn;omega)
 cases x<;>simp only[zdb,reduceCtorEq,Option.some.injEq,Prod.mk.injEq,true_and]at h;case nils=>subst h;exact⟨none,0,0,hx,rfl⟩
 case rwp=>subst h;obtain⟨f,_,_,_,rfl⟩:=hx;exact⟨_,_,_,rfl,rfl⟩
 case rwf=>subst h;obtain⟨f,_,_,_,rfl⟩:=hx;exact⟨_,_,_,rfl,rfl⟩
 case rob=>obtain⟨hn,rfl⟩:=h;obtain⟨a,n,cp,rfl⟩:=ro hn hx;exact⟨_,_,_,rfl,rfl⟩
 case roi=>obtain⟨hn,rfl⟩:=h;obtain⟨a,n,cp,rfl⟩:=ro hn hx;exact⟨_,_,_,rfl,rfl⟩
 case ros=>obtain⟨hn,rfl⟩:=h;obtain⟨a,n,cp,rfl⟩:=ro hn hx;exact⟨_,_,_,rfl,rfl⟩
 case rov=>obtain⟨hn,rfl⟩:=h;obtain⟨a,n,cp,rfl⟩:=ro hn hx.2;exact⟨_,_,_,rfl,rfl⟩
 case rws=>obtain⟨hd,rfl⟩:=h;have hd:=of_decide_eq_true hd;obtain⟨f,_,_,_,_,a,cp,rfl,_,p5⟩:=hx;obtain⟨_,rfl⟩:=p5 hd;exact⟨_,_,_,rfl,rfl⟩
 case rwc=>obtain⟨hd,rfl⟩:=h;have hd:=of_decide_eq_true hd;obtain⟨f,_,⟨_,_,_,a,cp,rfl,_,p5⟩,_⟩:=hx;obtain⟨_,rfl⟩:=p5 hd;exact⟨_,_,_,rfl,rfl⟩
theorem zvF{op:BinOp}{t:TypeId}{x y v:AV}{X Y:Value}(h:zxj P op t x y=some (true,v))(hx:Rel L R x X)(hy:Rel L R y Y):
  ∃m:Vc.Mode,∃c V,XM P m op t X Y=some (c,V)∧jd c∧Rel L R v V:=by
 unfold zxj at h;split at h
 ·rename_i k k' b;obtain⟨n,hn,rfl⟩:=hx;simp only[Rel]at hy;subst hy;split at h
  ·rename_i hk hb;have hb:b≤0:=by simpa using hb
   cases h;obtain⟨m,c,V,h1,h2,h3⟩:=WL (L:=L) (R:=R) (op:=.eql) (k:=k) (a:=n) (b:=b) (v:=.bool (decide (n=b))) rfl;rw[decide_eq_false (by omega)]at h3;exact⟨m,c,V,by simp only[XM,hk,if_true,h1],h2,h3⟩
  ·rename_i hk hb;have hb:b≤0:=by simpa using hb
   cases h;obtain⟨m,c,V,h1,h2,h3⟩:=WL (L:=L) (R:=R) (op:=.neq) (k:=k) (a:=n) (b:=b) (v:=.bool (!decide (n=b))) rfl;rw[decide_eq_false (by omega)]at h3;exact⟨m,c,V,by simp only[XM,hk,if_true,h1],h2,h3⟩
  ·cases h
 ·rename_i k a k' b;simp only[Rel]at hx hy;subst hx hy;split at h
  ·simp only[Option.some.injEq,Prod.mk.injEq,Bool.and_eq_true,yP,decide_eq_true_eq,Nat.ble_eq]at h;obtain⟨⟨h1,h2⟩,rfl⟩:=h;exact⟨.exact,_,_,rfl,⟨h1,by omega⟩,rfl⟩
  ·simp only[Option.some.injEq,Prod.mk.injEq,Bool.and_eq_true,yP,decide_eq_true_eq,Nat.ble_eq]at h;obtain⟨⟨h1,h2⟩,rfl⟩:=h;exact⟨.exact,_,_,rfl,⟨h1,by omega⟩,rfl⟩
  ·split at h
   ·rename_i h1 h2 _ hk;obtain⟨m,c,V,g1,g2,g3⟩:=WL (L:=L) (R:=R) h;refine⟨m,c,V,?_,g2,g3⟩;cases op<;>first|exact (h1 rfl).elim|exact (h2 rfl).elim|simp only[XM,hk,if_true,g1]
   ·cases h
 ·simp only[Rel]at hx hy;subst hx hy;obtain⟨c,V,h1,h2,h3⟩:=zkV (L:=L) (R:=R) h;exact⟨.exact,c,V,by simp only[XM,h1],h2,h3⟩
 ·rename_i a b;simp only[Rel]at hx hy;subst hx hy;split at h<;>simp only[Option.some.injEq,Prod.mk.injEq,true_and,reduceCtorEq]at h;all_goals
   rename_i hu;subst h;exact⟨.exact,none,_,by simp only[XM,hu,zkX];rfl,trivial,by simp only[Rel,zdm]⟩
 ·rename_i xs ys;obtain⟨Xs,rfl,hx⟩:=hx;obtain⟨Ys,rfl,hy⟩:=hy;have key:∀{c:Bool},zrv P t xs ys=some c→P.eqGuardType P.depth t=false∧j8 P 8 t (.agg Xs.toArray) (.agg Ys.toArray)=some c:=by
   intro c hc;unfold zrv at hc;split at hc
   ·rename_i fs hu hg hs;refine⟨hg,?_⟩;simp only[j8,hu,hs,Bool.false_eq_true,if_false];split at hc
    ·rename_i b hb;cases hc;exact zmi (d0:=6) hb (by simpa using hx) (by simpa using hy)
    ·split at hc
     ·rename_i b hb;cases hc;exact zvy hb (by simpa using hx) (by simpa using hy)
     ·exact zvx hc (by simpa using hx) (by simpa using hy)
   ·cases hc
  split at h<;>simp only[Option.some.injEq,Prod.mk.injEq,true_and,reduceCtorEq]at h;all_goals
   rename_i c hc;obtain⟨h1,h2⟩:=key hc;subst h;exact⟨.exact,none,_,by simp only[XM,h1,h2,Bool.false_eq_true,if_false],trivial,rfl⟩
 ·have hy:Y=.slice none 0 0:=hy;subst hy;split at h
  ·rename_i e c hu hc;cases h;obtain⟨a,n,cp,rfl,rfl⟩:=zac hc hx;exact⟨.exact,none,_,by simp only[XM,hu],trivial,rfl⟩
  ·rename_i e c hu hc;cases h;obtain⟨a,n,cp,rfl,rfl⟩:=zac hc hx;exact⟨.exact,none,_,by simp only[XM,hu],trivial,rfl⟩
  ·cases h
 ·cases h
theorem zia(v:Value):Rel L R (zj5 v) v:=by
 unfold zj5;split<;>(try exact rfl)
 ·split
  ·rename_i f first cap h1 h2
   exact⟨[],[],by simp[Array.toList_eq_nil_iff.1 h1,Array.toList_eq_nil_iff.1 h2],rfl,rfl⟩
  ·trivial
 ·trivial
theorem QH:∀(l:List Value),RelL L R (l.map zj5) l
 |[]=>rfl
 |v::r=>⟨v,r,rfl,zia v,QH r⟩
theorem zl3(v:Value):Rel L R (ofV v) v:=by
 unfold ofV;split
 ·rename_i cs;exact⟨cs.toList,rfl,QH _⟩
 ·exact zia v
def GlobOK(gl:Glob)(R:Ro):Prop:=∀g,Rel (fun _=>none) R (jP gl g) (.pointer (some ⟨g,0,none⟩))
theorem ZE:∀(gl:Glob)(g:Nat),idsV (jP gl g)=[]
 |[],_=>rfl
 |(h,v)::r,g=>by
  simp only[jP];split
  ·rfl
  ·exact ZE r g
theorem YR{gl:Glob}(hg:GlobOK gl R){s:Slots}{a:Act}(hs:∀t,Rel L R (get s t) (a.tmps.getD t undef))(x:Operand):Rel L R (opnd gl s x) (a.eval x):=by
 cases x with
 |tmp t=>exact hs t
 |const v=>exact zl3 v
 |global g=>exact zl (fun _ _ h=>h) _ _ (by simp[opnd,ZE]) (hg g)
 |func f=>exact⟨[],[],rfl,rfl,rfl⟩
theorem YP{t:TypeId}{cs:List AV}{off:Nat}{v:AV}{vs:List Value}(h:YQ P t cs off=some v)(hr:RelL L R cs vs):
  ∃V n,zP P t vs off=some V∧Rel L R v V∧zA P t=some n∧off+n≤vs.length:=by
 unfold YQ at h;split at h
 ·rename_i n ha hs;split at h
  ·rename_i hle;cases h;exact⟨_,n,by simp only[zP,ha,hs],⟨_,rfl,(hr.drop off).take n⟩,hs,by have:=Nat.le_of_ble_eq_true hle;rw[hr.length]at this;exact this⟩
  ·cases h
 ·rename_i ha hs;obtain⟨V,e,hv⟩:=hr.get h;exact⟨V,1,by simp only[zP,ha,hs];exact e,hv,hs,(List.getElem?_eq_some_iff.1 e).1⟩
 ·cases h
theorem zeA(off:Nat):∀(vs:List Value)(k:Nat)(cs:Array Value)(p:Nat),off+k+vs.length≤cs.size→
  ((vs.zipIdx k).foldl (fun(cs:Array Value)(x:Value×Nat)=>cs.setIfInBounds (off+x.2) x.1) cs)[p]? =if off+k≤p∧p<off+k+vs.length then vs[p-(off+k)]? else cs[p]?
 |[],k,cs,p,_=>by rw[if_neg (by simp)];rfl
 |v::r,k,cs,p,hle=>by
  simp only[List.zipIdx_cons,List.foldl_cons];rw[zeA off r (k+1) _ p (by simp at hle⊢;omega)];by_cases h1:off+(k+1)≤p∧p<off+(k+1)+r.length
  ·rw[if_pos h1,if_pos (by simp;omega),show p-(off+k)=(p-(off+(k+1)))+1 by omega];simp
  ·rw[if_neg h1];by_cases h2:p=off+k
   ·subst h2;rw[if_pos (by simp)];simp only[List.length_cons]at hle;have h3:off+k<cs.size:=by omega
    simp[h3]
   ·rw[if_neg (by simp;omega),Array.getElem?_setIfInBounds_ne (by omega)]
theorem zku(off:Nat)(vs:List Value)(cs:Array Value)(hle:off+vs.length≤cs.size):
  (vs.toArray.zipIdx.foldl (fun cs x=>cs.setIfInBounds (off+x.2) x.1) cs).toList=cs.toList.take off++vs++cs.toList.drop (off+vs.length):=by
 rw[←Array.foldl_toList];apply List.ext_getElem?;intro p;have h:=zeA off vs 0 cs p (by omega);simp only[Nat.add_zero]at h;have h':((vs.toArray.zipIdx.toList).foldl (fun(cs:Array Value)(x:Value×Nat)=>cs.setIfInBounds (off+x.2) x.1) cs).toList[p]? =if off≤p∧p<off+vs.length then vs[p-off]? else cs[p]? :=by rw[Array.getElem?_toList,←h];simp
 rw[h'];have hsz:(cs.toList.take off).length=off:=by simp;omega
 by_cases h1:off≤p∧p<off+vs.length
 ·rw[if_pos h1,List.append_assoc,List.getElem?_append_right (by omega),hsz,List.getElem?_append_left (by omega)]
 ·rw[if_neg h1];by_cases h2:p<off
  ·rw[List.append_assoc,List.getElem?_append_left (by omega),List.getElem?_take,if_pos h2];simp
  ·rw[List.getElem?_append_right (by simp;omega)];simp only[List.length_append,hsz,List.getElem?_drop];rw[show off+vs.length+(p-(off+vs.length))=p by omega];simp
theorem Vx{place:Nat→Option (Nat×Nat)}:∀{parts:List (Nat×AV)}{l l':List AV}{cs:Array Value}{parts':List (Nat×Value)},
  zdi place l parts=some l'→RelL L R l cs.toList→parts.map (·.1)=parts'.map (·.1)→RelL L R (parts.map (·.2)) (parts'.map (·.2))→
  ∃cs',Instr.fill place cs parts'=some cs'∧RelL L R l' cs'.toList:=by
 intro parts;induction parts with
 |nil=>
  intro l l' cs parts' h hr h1 _;simp only[zdi,Option.some.injEq]at h;subst h;cases parts' with
  |nil=>exact⟨cs,rfl,hr⟩
  |cons _ _=>simp at h1
 |cons p r ih=>
  intro l l' cs parts' h hr h1 h2;obtain⟨i,v⟩:=p;cases parts' with
  |nil=>simp at h1
  |cons q r'=>
   obtain⟨i',V⟩:=q;simp only[List.map_cons,List.cons.injEq]at h1 h2;obtain⟨rfl,h1⟩:=h1;obtain⟨u,us,e,hv,h3⟩:=h2;simp only[List.cons.injEq]at e;obtain⟨rfl,rfl⟩:=e;simp only[zdi]at h;split at h
   ·cases h
   ·rename_i off n hp;split at h
    ·rename_i hb hle ho;have hb:=Nat.eq_of_beq_eq_true hb;have hle:=Nat.le_of_ble_eq_true hle;obtain⟨vs,e1,e2,_⟩:=hv.cells ho;have hlen:vs.length=n:=by rw[←e2.length,hb]
     have hsz:l.length=cs.size:=by rw[hr.length];simp
     obtain⟨cs',h4,h5⟩:=ih (cs:=(V.cells.zipIdx.foldl (fun cs(c,j)=>cs.setIfInBounds (off+j) c) cs)) h (by
      rw[e1];have:=zku off vs cs (by omega);rw[this];exact hr.setL e2 off) h1 h3
     refine⟨cs',?_,h5⟩;simp only[Instr.fill,hp];have hc:¬((decide (V.cells.size≠n)||decide (off+V.cells.size>cs.size))=true):=by rw[e1];simp;omega
     rw[if_neg hc];exact h4
    ·cases h
theorem zcT(ev:Operand→AV):∀(l:List (Nat×Operand)),(Q2 ev l).map (·.1)=l.map (·.1)
 |[]=>rfl
 |(i,x)::r=>by simp[Q2,zcT ev r]
theorem zcS{ev:Operand→AV}{ρ:Operand→Value}(h:∀x,Rel L R (ev x) (ρ x)):∀(l:List (Nat×Operand)),RelL L R ((Q2 ev l).map (·.2)) (l.map fun p=>ρ p.2)
 |[]=>rfl
 |(_i,x)::r=>⟨_,_,rfl,h x,zcS h r⟩
theorem zeo(ρ:Operand→Value):∀(l:List (Nat×Operand)),zka (fun x=>some (ρ x)) l=some (l.map fun p=>(p.1,ρ p.2))
 |[]=>rfl
 |(i,x)::r=>by simp[zka,zeo ρ r]
theorem zem(ρ:Operand→Value):∀(l:List Operand),zie (fun x=>some (ρ x)) l=some (l.map ρ)
 |[]=>rfl
 |x::r=>by simp[zie,zem ρ r]
theorem YI{ev:Operand→AV}{ρ:Operand→Value}(h:∀x,Rel L R (ev x) (ρ x)):∀(l:List Operand),RelL L R (l.map ev) (l.map ρ)
 |[]=>rfl
 |x::r=>⟨_,_,rfl,h x,YI h r⟩
theorem Yo{t:TypeId}{cs:List AV}(h:zdZ P t=some cs):∃vs,zhv P t=some vs∧RelL L R cs vs:=by
 unfold zdZ at h;split at h
 ·rename_i vs hv;cases h;exact⟨vs,hv,QH vs⟩
 ·cases h
theorem znt{t:TypeId}{parts:List (Nat×AV)}{v:AV}{parts':List (Nat×Value)}(h:zkQ P t parts=some v)(h1:parts.map (·.1)=parts'.map (·.1))
  (h2:RelL L R (parts.map (·.2)) (parts'.map (·.2))):∃V,XL P t parts'=some V∧Rel L R v V:=by
 have zi:∀{z:List AV},zdZ P t=some z→∃i zv,P.info? t=some i∧i.zero=some zv∧RelL L R z zv.cells.toList:=by
  intro z hz;obtain⟨vs,e1,e2⟩:=Yo (L:=L) (R:=R) hz;unfold zhv at e1;split at e1
  ·rename_i i hi;split at e1
   ·rename_i zv hzv;cases e1;exact⟨i,zv,hi,hzv,e2⟩
   ·cases e1
  ·cases e1
 unfold zkQ at h;split at h
 ·rename_i fields z hu hz;obtain⟨i,zv,e1,e2,e3⟩:=zi hz;split at h
  ·rename_i places hp;split at h
   ·rename_i cs hf;cases h;obtain⟨cs',e4,e5⟩:=Vx hf e3 h1 h2;exact⟨.agg cs',by simp only[XL,e1,hu,e2,hp,e4],⟨cs'.toList,rfl,e5⟩⟩
   ·cases h
  ·cases h
 ·rename_i n elem z hu hz;obtain⟨i,zv,e1,e2,e3⟩:=zi hz;split at h
  ·rename_i size hs;split at h
   ·rename_i cs hf;cases h;obtain⟨cs',e4,e5⟩:=Vx hf e3 h1 h2;exact⟨.agg cs',by simp only[XL,e1,hu,e2,hs,e4],⟨cs'.toList,rfl,e5⟩⟩
   ·cases h
  ·cases h
 ·cases h
theorem RoRow.row{full:Bool}{n:Nat}{V:Value}{C:List Value→Prop}(h:RoRow R full n V C):∃a cap,V=.slice a n cap:=by
 rcases h with⟨rfl,a,cap,h,_⟩|⟨b,off,cap,cs,T,fr,seg,tl,h,_⟩
 ·exact⟨a,cap,h⟩
 ·exact⟨_,cap,h⟩
theorem RoRow.at_{full:Bool}{n:Nat}{V:Value}{C:List Value→Prop}(h:RoRow R full n V C)(hn:0<n):
  ∃b off cap cs T fr seg tl,V=.slice (some ⟨b,off,none⟩) n cap∧R b=some (.cells cs T fr)∧cs.toList.drop off=seg++tl∧C seg:=by
 rcases h with⟨rfl,_⟩|⟨b,off,cap,cs,T,fr,seg,tl,h1,_,_,h2,h3,h4⟩
 ·omega
 ·exact⟨b,off,cap,cs,T,fr,seg,tl,h1,h2,h3,h4⟩
theorem zC{i:Int}{n:Nat}:inIx i n=true↔0≤i∧i<(n:Int):=by simp[inIx]
theorem zS{lo hi:Int}{n:Nat}:zL lo hi n=true↔0≤lo∧lo≤hi∧hi≤(n:Int):=by simp[zL,and_assoc]
theorem zvn{G:List Res}{h:Heap}{R:Ro}{v:AV}{V:Value}{n:Int}(hn:zgN h v=some n)(hr:Rel (look G h) R v V):
  ∃a k cap,V=.slice a k cap∧n=(k:Int):=by
 unfold zgN at hn;split at hn
 ·cases hn;simp only[Rel]at hr;exact⟨none,0,0,hr,rfl⟩
 ·rename_i i;split at hn
  ·rename_i o ho;cases hn;obtain⟨f,h1,h2,h3⟩:=hr;obtain⟨o',r,h4,h5,rfl⟩:=zr h1;rw[ho]at h4;cases h4;cases hv:r.virt
   ·exact⟨_,_,_,h3 hv,rfl⟩
   ·have:=h2 hv;simp only at this;exact⟨_,_,_,this.2,by rw[this.1]⟩
  ·cases hn
 ·rename_i i;split at hn
  ·rename_i o ho;cases hn;obtain⟨f,h1,h2,h2',h3⟩:=hr;obtain⟨o',r,h4,h5,rfl⟩:=zr h1;rw[ho]at h4;cases h4;exact⟨_,_,_,h3,rfl⟩
  ·cases hn
 ·cases hn;obtain⟨f,_,h1,h2,h3,a,cap,rfl,_⟩:=hr;exact⟨a,_,cap,rfl,by omega⟩
 all_goals first
  |(cases hn;done)
  |(
   simp only[Option.some.injEq]at hn;subst hn;simp only[Rel]at hr;first
    |(obtain⟨f,_,⟨h1,h2,h3,a,cap,rfl,_⟩,_⟩:=hr;exact⟨a,_,cap,rfl,by omega⟩)
    |(obtain⟨a,cap,h⟩:=hr.row;exact⟨a,_,cap,h,rfl⟩)
    |(obtain⟨a,cap,h⟩:=hr.2.row;exact⟨a,_,cap,h,rfl⟩))
theorem zr0{l:List UInt8}{lo hi:Option AV}{v:AV}{lo' hi':Option Value}(h:zwk l lo hi=some (true,v))
  (hlo:match lo,lo' with|none,none=>True|some x,some X=>Rel L R x X|_,_=>False) (hhi:match hi,hi' with|none,none=>True|some x,some X=>Rel L R x X|_,_=>False):
  ∃c V,ze6 (bs l) lo' hi'=some (c,V)∧jd c∧Rel L R v V:=by
 unfold zwk at h;split at h
 ·cases h;cases lo' with
  |some _=>exact hlo.elim
  |none=>cases hi' with
   |some _=>exact hhi.elim
   |none=>exact⟨_,_,rfl,trivial,rfl⟩
 ·rename_i k n;simp only[Option.some.injEq,Prod.mk.injEq]at h;obtain⟨h1,rfl⟩:=h;have h1:=zS.1 h1;cases lo' with
  |none=>exact hlo.elim
  |some X=>cases hi' with
   |some _=>exact hhi.elim
   |none=>simp only[Rel]at hlo;subst hlo;exact⟨_,_,rfl,by(simp only[jd,Yl];try omega),by simp only[Rel,Yl]⟩
 ·rename_i k n;simp only[Option.some.injEq,Prod.mk.injEq]at h;obtain⟨h1,rfl⟩:=h;have h1:=zS.1 h1;cases lo' with
  |some _=>exact hlo.elim
  |none=>cases hi' with
   |none=>exact hhi.elim
   |some X=>simp only[Rel]at hhi;subst hhi;exact⟨_,_,rfl,by(simp only[jd,Yl];try omega),by simp only[Rel,Yl]⟩
 ·rename_i k n k' n';simp only[Option.some.injEq,Prod.mk.injEq]at h;obtain⟨h1,rfl⟩:=h;have h1:=zS.1 h1;cases lo' with
  |none=>exact hlo.elim
  |some X=>cases hi' with
   |none=>exact hhi.elim
   |some Y=>simp only[Rel]at hlo hhi;subst hlo hhi;exact⟨_,_,rfl,by(simp only[jd,Yl];try omega),by simp only[Rel,Yl]⟩
 ·cases h
theorem qf:∀(a b:List AV),idsL (a++b)=idsL a++idsL b
 |[],_=>rfl
 |v::r,b=>by simp[idsL,qf r b]
theorem QS:∀{l:List AV}{i:Nat}{v:AV},idsL l=[]→l[i]? =some v→idsV v=[]
 |[],_,_,_,h=>by simp at h
 |x::r,0,v,h0,h=>by simp at h;subst h;simp[idsL]at h0;exact h0.1
 |x::r,i+1,v,h0,h=>by simp[idsL]at h0;exact QS h0.2 (by simpa using h)
theorem zjz{v:AV}{V:Value}(h0:idsV v=[])(h1:zJ v=true)(h:∃b off ce T fr u tl,V=.pointer (some ⟨b,off,none⟩)∧R b=some (.cells ce T fr)∧ce.toList.drop off=u::tl∧Rel L R v u):Rel L R (.rp v) V:=by
 cases v with
 |agg cs=>cases h1
 |_=>exact⟨h0,h1,h⟩
theorem ZO{z:Nat}:∀{l:List AV}{cs:List Value},RelR L R z l cs→cs.length=l.length*z
 |[],cs,h=>by have h:cs=[]:=h;subst h;simp
 |x::r,cs,hr=>by
  have key:(∃a b,cs=a++b∧a.length=z∧RelR L R z r b)∨(∃u us,cs=u::us∧z=1∧RelR L R z r us):=by
   cases x with
   |agg xs=>obtain⟨a,b,h1,h2,h3,h4⟩:=hr;exact .inl ⟨a,b,h1,by rw[←h3.length,h2],h4⟩
   |_=>obtain⟨u,us,h1,h2,h3,h4,h5⟩:=hr;exact .inr ⟨u,us,h1,h2,h5⟩
  rcases key with⟨a,b,rfl,h2,h3⟩|⟨u,us,rfl,rfl,h3⟩
  ·rw[List.length_append,h2,ZO h3,List.length_cons,Nat.succ_mul,Nat.add_comm]
  ·rw[List.length_cons,ZO h3,List.length_cons];omega
theorem RelR_get'{z:Nat}:∀{l:List AV}{cs:List Value},RelR L R z l cs→∀{i:Nat}{v:AV},l[i]? =some v→
  (∃xs,v=.agg xs∧xs.length=z∧RelL L R xs ((cs.drop (i*z)).take z))∨(zJ v=true∧z=1∧∃u,cs[i]? =some u∧Rel L R v u)
 |[],_,_,i,v,h=>by simp at h
 |x::r,cs,hr,i,v,h=>by
  have key:(∃xs a b,x=.agg xs∧cs=a++b∧xs.length=z∧RelL L R xs a∧RelR L R z r b)∨(∃u us,cs=u::us∧z=1∧zJ x=true∧Rel L R x u∧RelR L R z r us):=by
   cases x with
   |agg xs=>obtain⟨a,b,h1,h2,h3,h4⟩:=hr;exact .inl ⟨xs,a,b,rfl,h1,h2,h3,h4⟩
   |_=>obtain⟨u,us,h1,h2,h3,h4,h5⟩:=hr;exact .inr ⟨u,us,h1,h2,h3,h4,h5⟩
  rcases key with⟨xs,a,b,rfl,rfl,h2,h3,h4⟩|⟨u,us,rfl,rfl,h3,h4,h5⟩
  ·have ha:a.length=z:=by rw[←h3.length,h2]
   cases i with
   |zero=>simp only[List.getElem?_cons_zero,Option.some.injEq]at h;subst h;refine .inl ⟨xs,rfl,h2,?_⟩;rw[Nat.zero_mul,List.drop_zero,List.take_append_of_le_length (by omega),List.take_of_length_le (by omega)];exact h3
   |succ i=>
    simp only[List.getElem?_cons_succ]at h;have hd:((a++b).drop ((i+1)*z))=b.drop (i*z):=by rw[Nat.succ_mul,Nat.add_comm,←List.drop_drop,←ha,List.drop_left]
    rcases RelR_get' h4 h with⟨ys,e1,e2,e3⟩|⟨e1,e2,u,e3,e4⟩
    ·exact .inl ⟨ys,e1,e2,by rw[hd];exact e3⟩
    ·refine .inr ⟨e1,e2,u,?_,e4⟩;subst e2;rw[List.getElem?_append_right (by omega),ha];simpa using e3
  ·cases i with
   |zero=>simp only[List.getElem?_cons_zero,Option.some.injEq]at h;subst h;exact .inr ⟨h3,rfl,u,rfl,h4⟩
   |succ i=>
    simp only[List.getElem?_cons_succ]at h;rcases RelR_get' h5 h with⟨ys,e1,e2,e3⟩|⟨e1,e2,u',e3,e4⟩
    ·refine .inl ⟨ys,e1,e2,?_⟩;rw[show(i+1)*1=i*1+1 by omega,List.drop_succ_cons];exact e3
    ·exact .inr ⟨e1,e2,u',by simpa using e3,e4⟩
theorem zed{v x:AV}(h:zk9 v=some (true,x)):zJ v=true∧zJ x=true∧(∀L R V,Rel L R v V→Rel L R x V)∧(idsV v=[]→idsV x=[]):=by
 unfold zk9 at h;split at h
 ·cases h;exact⟨rfl,rfl,fun _ _ _ h=>h,fun h=>h⟩
 ·cases h;exact⟨rfl,rfl,fun _ _ _ h=>h,fun h=>h⟩
 ·cases h;exact⟨rfl,rfl,fun _ _ _ h=>h,fun h=>h⟩
 ·cases h
theorem QO{sy:Bool}{t:TypeId}{v x:AV}(h:zep P sy t v=some (true,x)):zw P t=some false∧zJ v=true∧zJ x=true∧(∀L R V,Rel L R v V→Rel L R x V)∧(idsV v=[]→idsV x=[]):=by
 unfold zep at h;split at h
 ·rename_i hu;simp only[Option.some.injEq,Prod.mk.injEq]at h;obtain⟨h1,rfl⟩:=h;unfold isIntK at h1;split at h1
  ·rename_i k n;simp only[kEq,decide_eq_true_eq]at h1;subst h1;exact⟨by simp[zw,hu],rfl,rfl,fun _ _ _ h=>h,fun h=>h⟩
  ·cases h1
 ·rename_i hu;simp only[Option.some.injEq,Prod.mk.injEq]at h;obtain⟨h1,rfl⟩:=h;split at h1
  ·exact⟨by simp[zw,hu],rfl,rfl,fun _ _ _ h=>h,fun h=>h⟩
  ·cases h1
 ·rename_i hu;simp only[Option.some.injEq,Prod.mk.injEq]at h;obtain⟨h1,rfl⟩:=h;split at h1
  ·exact⟨by simp[zw,hu],rfl,rfl,fun _ _ _ h=>h,fun h=>h⟩
  ·cases h1
 ·rename_i hu;split at h
  ·cases h;exact⟨by simp[zw,hu],rfl,rfl,fun _ _ _ h=>h,fun h=>h⟩
  ·cases h
 ·rename_i e hu;split at h
  ·simp only[Option.some.injEq,Prod.mk.injEq]at h;obtain⟨h1,rfl⟩:=h;refine⟨by simp[zw,hu],?_,rfl,?_,fun _=>rfl⟩
   ·unfold zkm at h1;split at h1
    ·rfl
    ·rfl
    ·cases h1
   ·intro L R V hV;unfold zkm at h1;split at h1
    ·rename_i f l;rcases hV with⟨a,b,c,d,_⟩|⟨b,off,cap,cs,T,fr,seg,tl,g1,_,g3⟩
     ·exact .inl ⟨a,b,c,d,fun h=>by cases h⟩
     ·exact .inr ⟨b,off,cap,cs,T,fr,seg,tl,g1,fun h=>(by cases h),g3⟩
    ·have hV:V=.slice none 0 0:=hV;exact .inl ⟨rfl,none,0,hV,fun h=>by cases h⟩
    ·cases h1
  ·rename_i k _ _;simp only[Option.some.injEq,Prod.mk.injEq]at h;obtain⟨h1,rfl⟩:=h;refine⟨by simp[zw,hu],?_,rfl,?_,fun _=>rfl⟩
   ·unfold zkl at h1;split at h1
    ·rfl
    ·rfl
    ·cases h1
   ·intro L R V hV;unfold zkl at h1;split at h1
    ·rename_i f k' l;simp only[kEq,decide_eq_true_eq]at h1;subst h1;rcases hV with⟨a,b,c,d,_⟩|⟨b,off,cap,cs,T,fr,seg,tl,g1,_,g3⟩
     ·exact .inl ⟨a,b,c,d,fun h=>by cases h⟩
     ·exact .inr ⟨b,off,cap,cs,T,fr,seg,tl,g1,fun h=>(by cases h),g3⟩
    ·have hV:V=.slice none 0 0:=hV;exact .inl ⟨rfl,none,0,hV,fun h=>by cases h⟩
    ·cases h1
  ·split at h
   ·split at h
    ·rename_i n hn;simp only[Option.some.injEq,Prod.mk.injEq]at h;obtain⟨h1,rfl⟩:=h;refine⟨by simp[zw,hu],?_,rfl,?_,fun _=>rfl⟩
     ·unfold zda at h1;split at h1
      ·rfl
      ·rfl
      ·cases h1
     ·intro L R V hV;unfold zda at h1;split at h1
      ·rename_i f z l;have h1:=Nat.eq_of_beq_eq_true h1;subst h1;obtain⟨h0,hV⟩:=hV;refine⟨h0,?_⟩;rcases hV with⟨a,b,c,d,_⟩|⟨b,off,cap,cs,T,fr,seg,tl,g1,_,g3⟩
       ·exact .inl ⟨a,b,c,d,fun h=>by cases h⟩
       ·exact .inr ⟨b,off,cap,cs,T,fr,seg,tl,g1,fun h=>(by cases h),g3⟩
      ·have hV:V=.slice none 0 0:=hV;exact⟨rfl,.inl ⟨rfl,none,0,hV,fun h=>by cases h⟩⟩
      ·cases h1
    ·cases h
   ·obtain⟨g1,g2,g3,g4⟩:=zed h;exact⟨by simp[zw,hu],g1,g2,g3,g4⟩
  ·obtain⟨g1,g2,g3,g4⟩:=zed h;exact⟨by simp[zw,hu],g1,g2,g3,g4⟩
 ·cases h
theorem ZL{cs:List AV}{k:Nat}(hk:k<cs.length):cs[k]? =some (cellOf (.agg cs) k):=by simp only[cellOf,List.getElem?_eq_getElem hk]
theorem WY{sy:Bool}{e:TypeId}{cs:List AV}:∀{n k:Nat}{xs:List AV},Vl P sy e (.agg cs) n k=some (true,xs)→k+xs.length≤cs.length→
  (∀L R vs,RelL L R cs vs→RelL L R xs ((vs.drop k).take xs.length))∧(idsL cs=[]→idsL xs=[])
 |0,_,xs,h,_=>by simp only[Vl,Option.some.injEq,Prod.mk.injEq]at h;obtain⟨-,rfl⟩:=h;exact⟨fun _ _ _ _=>by simp[RelL],fun _=>rfl⟩
 |n+1,k,xs,h,hl=>by
  simp only[Vl]at h;split at h
  ·rename_i d x e ys h2 h3;simp only[Option.some.injEq,Prod.mk.injEq,Bool.and_eq_true]at h;obtain⟨⟨rfl,rfl⟩,rfl⟩:=h;simp only[List.length_cons]at hl⊢;have hk:k<cs.length:=by omega
   obtain⟨_,_,_,g1,g2⟩:=QO h2;obtain⟨i1,i2⟩:=WY h3 (by omega);refine⟨fun L R vs hr=>?_,fun h0=>?_⟩
   ·obtain⟨V,e1,e2⟩:=hr.get (ZL hk);obtain⟨hlt,rfl⟩:=List.getElem?_eq_some_iff.1 e1;rw[List.drop_eq_getElem_cons hlt,List.take_succ_cons];exact⟨_,_,rfl,g1 _ _ _ e2,i1 _ _ _ hr⟩
   ·simp only[idsL,g2 (QS h0 (ZL hk)),i2 h0,List.append_nil]
  ·cases h
theorem WZ{sy:Bool}{cs:List AV}:∀{fs:List (Nat×TypeId)}{k:Nat}{xs:List AV},Vm P sy (.agg cs) fs k=some (true,xs)→k+xs.length≤cs.length→
  (∀L R vs,RelL L R cs vs→RelL L R xs ((vs.drop k).take xs.length))∧(idsL cs=[]→idsL xs=[])
 |[],_,xs,h,_=>by simp only[Vm,Option.some.injEq,Prod.mk.injEq]at h;obtain⟨-,rfl⟩:=h;exact⟨fun _ _ _ _=>by simp[RelL],fun _=>rfl⟩
 |f::r,k,xs,h,hl=>by
  simp only[Vm]at h;split at h
  ·rename_i d x e ys h1 h2 h3;simp only[Option.some.injEq,Prod.mk.injEq,Bool.and_eq_true]at h;obtain⟨⟨rfl,rfl⟩,rfl⟩:=h;simp only[List.length_cons]at hl⊢;have hk:k<cs.length:=by omega
   obtain⟨_,_,_,g1,g2⟩:=QO h2;obtain⟨i1,i2⟩:=WZ h3 (by omega);refine⟨fun L R vs hr=>?_,fun h0=>?_⟩
   ·obtain⟨V,e1,e2⟩:=hr.get (ZL hk);obtain⟨hlt,rfl⟩:=List.getElem?_eq_some_iff.1 e1;rw[List.drop_eq_getElem_cons hlt,List.take_succ_cons];exact⟨_,_,rfl,g1 _ _ _ e2,i1 _ _ _ hr⟩
   ·simp only[idsL,g2 (QS h0 (ZL hk)),i2 h0,List.append_nil]
  ·cases h
theorem zcW{v:AV}{n:Nat}(h:lenB v n=true):∃cs,v=.agg cs∧cs.length=n:=by
 unfold lenB at h;split at h
 ·exact⟨_,rfl,Nat.eq_of_beq_eq_true h⟩
 ·cases h
theorem shapeA_rel{sy:Bool}{t:TypeId}{v x:AV}(h:zcs P sy t v=some (true,x)):
  (zw P t=some true∧∃cs xs,v=.agg cs∧x=.agg xs∧xs.length=cs.length∧(∀L R vs,RelL L R cs vs→RelL L R xs vs)∧(idsL cs=[]→idsL xs=[]))∨
  (zw P t=some false∧zJ v=true∧zJ x=true∧(∀L R V,Rel L R v V→Rel L R x V)∧(idsV v=[]→idsV x=[])):=by
 have whole:∀{cs xs:List AV},cs.length=xs.length→(∀L R vs,RelL L R cs vs→RelL L R xs ((vs.drop 0).take xs.length))→∀L R vs,RelL L R cs vs→RelL L R xs vs:=by intro cs xs h1 h2 L R vs hr;have:=h2 L R vs hr;rwa [List.drop_zero,List.take_of_length_le (by rw[←h1,hr.length];exact Nat.le_refl _)]at this
 unfold zcs at h;split at h
 ·rename_i fs hu;split at h
  ·split at h
   rotate_left
   ·cases h
   rename_i c xs hl;simp only[Option.some.injEq,Prod.mk.injEq,Bool.and_eq_true]at h;obtain⟨⟨h1,rfl⟩,rfl⟩:=h;obtain⟨cs,rfl,h5⟩:=zcW h1;obtain⟨i1,i2⟩:=WZ hl (by omega);exact .inl ⟨by simp[zw,hu],cs,xs,rfl,rfl,h5.symm,whole h5 i1,i2⟩
  ·cases h
 ·rename_i n e hu;split at h
  ·rename_i c xs hl;simp only[Option.some.injEq,Prod.mk.injEq,Bool.and_eq_true]at h;obtain⟨⟨h1,rfl⟩,rfl⟩:=h;obtain⟨cs,rfl,h5⟩:=zcW h1;obtain⟨i1,i2⟩:=WY hl (by omega);exact .inl ⟨by simp[zw,hu],cs,xs,rfl,rfl,h5.symm,whole h5 i1,i2⟩
  ·cases h
 ·exact .inr (QO h)
theorem zdE{z:Nat}:∀(i:Nat){l:List AV}{cs:List Value},RelR L R z l cs→RelR L R z (l.drop i) (cs.drop (i*z))
 |0,l,cs,h=>by simpa using h
 |i+1,[],cs,h=>by have h:cs=[]:=h;subst h;simp[RelR]
 |i+1,x::r,cs,hr=>by
  have key:(∃a b,cs=a++b∧a.length=z∧RelR L R z r b):=by
   cases x with
   |agg xs=>obtain⟨a,b,h1,h2,h3,h4⟩:=hr;exact⟨a,b,h1,by rw[←h3.length,h2],h4⟩
   |_=>obtain⟨u,us,h1,h2,h3,h4,h5⟩:=hr;exact⟨[u],us,h1,by simp[h2],h5⟩
  obtain⟨a,b,rfl,h2,h3⟩:=key;have:=zdE i h3;rw[List.drop_succ_cons,Nat.succ_mul,Nat.add_comm,←List.drop_drop,←h2,List.drop_left,h2];exact this
theorem XO{z:Nat}:∀(i:Nat){l:List AV}{cs:List Value},RelR L R z l cs→RelR L R z (l.take i) (cs.take (i*z))
 |0,l,cs,h=>by simp[RelR]
 |i+1,[],cs,h=>by have h:cs=[]:=h;subst h;simp[RelR]
 |i+1,x::r,cs,hr=>by
  cases x with
  |agg xs=>
   obtain⟨a,b,rfl,h2,h3,h4⟩:=hr;have ha:a.length=z:=by rw[←h3.length,h2]
   rw[List.take_succ_cons,Nat.succ_mul,Nat.add_comm,←ha,List.take_length_add_append,ha];exact⟨a,_,rfl,h2,h3,XO i h4⟩
  |_=>obtain⟨u,us,rfl,rfl,h3,h4,h5⟩:=hr;have:=XO i h5;rw[Nat.mul_one]at this;rw[Nat.mul_one,List.take_succ_cons,List.take_succ_cons];exact⟨u,_,rfl,rfl,h3,h4,this⟩
end
end Go.Am
