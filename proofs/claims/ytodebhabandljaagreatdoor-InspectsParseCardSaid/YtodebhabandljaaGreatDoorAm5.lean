/-
  A part of the proof of the laws.
-/
import Derived.Test.YtodebhabandljaaGreatDoorAm4
namespace Go.Am
open Go Go.RowKit Go.Vc
section
variable {P : Program} {L : Lk} {R : Ro}
theorem zjc{k:IntKind}{n:Int}{v:AV}(h:zne k n=(true,v)):∃m:Vc.Mode,∃c V,m.int k n=(c,V)/\jl c/\Rel L R v V:=by
 unfold zne at h;split at h
 ·simp only[Prod.mk.injEq]at h;obtain⟨j,rfl⟩:=h;exact⟨.exact,_,_,rfl,ql.1 j,rfl⟩
 ·simp only[Prod.mk.injEq]at h;obtain⟨-,rfl⟩:=h;exact⟨.wrap,_,_,rfl,trivial,rfl⟩
theorem zjr(a b:Int):(a==b)=decide (a=b):=by by_cases h:a=b<;>simp[h]
theorem zyL(a b:Int):(a !=b)=!decide (a=b):=by by_cases h:a=b<;>simp[h]
theorem zfD(a b:uAS):(a==b)=decide (a=b):=by by_cases h:a=b<;>simp[h]
theorem zfE(a b:Bool):(a==b)=decide (a=b):=by cases a<;>cases b<;>rfl
theorem zbi{op:BinOp}{k:IntKind}{a b:Int}{v:AV}(h:znM op k a b=some (true,v)):
  ∃m:Vc.Mode,∃c V,zlG m op k a b=some (c,V)/\jl c/\Rel L R v V:=by
 unfold znM at h;split at h;case h_4|h_5=>
  simp only[Option.some.injEq,Prod.mk.injEq,kY,decide_eq_true_eq,zh]at h;first
   |(obtain⟨⟨⟨y,j⟩,B⟩,rfl⟩:=h;exact⟨.exact,_,_,rfl,⟨y,j,ql.1 B⟩,rfl⟩)
   |(obtain⟨⟨y,j⟩,rfl⟩:=h;exact⟨.exact,_,_,rfl,And.intro y j,rfl⟩)
 case h_6|h_7|h_8=>cases h;exact⟨.exact,none,_,rfl,trivial,rfl⟩
 case h_9=>
  split at h
  ·rename_i H hc;simp only[Option.some.injEq,Prod.mk.injEq,true_and]at h;subst h;refine⟨.exact,none,.bool H,?_,trivial,rfl⟩;unfold zBu at hc;split at hc<;>simp only[Option.some.injEq,reduceCtorEq]at hc<;>subst hc<;>simp only[zlG,zjr,zyL]
  ·cases h
 all_goals
  simp only[Option.some.injEq]at h;obtain⟨m,c,V,y,j,B⟩:=zjc (L:=L) (R:=R) h;exact⟨m,c,V,by simp only[zlG,y],j,B⟩
theorem znJ{op:BinOp}{a b:uAS}{v:AV}(h:zjM op a b=some (true,v)):
  ∃c V,znK op (bl (bs a)) (bl (bs b))=some (c,V)/\jl c/\Rel L R v V:=by
 simp only[Y8];unfold zjM at h;split at h<;>simp only[Option.some.injEq,Prod.mk.injEq,true_and,reduceCtorEq]at h
 ·obtain⟨j,rfl⟩:=h;have j:=zba.1 j;exact⟨_,_,rfl,by show _<=_;omega,rfl⟩
 all_goals
  subst h;exact⟨_,_,rfl,trivial,by simp only[Rel,zfD]⟩
theorem zpn:∀{fs:List Field}{n:Nat}{xs J:List AV}{Xs Ys:List Value}{b:Bool}{d0:Nat},zjq P fs n xs J=some b->
  RelL L R xs (Xs.drop n)->RelL L R J (Ys.drop n)->Je P (yb P (d0+1)) Xs Ys fs=some b:=by
 intro fs;induction fs with
 |nil=>intro n xs J Xs Ys b d0 j _ _;cases xs<;>cases J<;>simp only[zjq,reduceCtorEq,Option.some.injEq]at j;subst j;rfl
 |cons f r ih=>
  intro n xs J Xs Ys b d0 j rx ry
  match xs,J,j,rx,ry with
  |[],_,j,_,_=>simp[zjq]at j
  |x::xr,[],j,_,_=>simp[zjq]at j
  |x::xr,y::yr,j,rx,ry=>
   obtain⟨X,Xr,e1,O,r2⟩:=rx;obtain⟨Y,Yr,e2,I,r4⟩:=ry;have eX:Xs[n]? =some X:=by have:=congrArg (·[0]?) e1;simpa[List.getElem?_drop]using this
   have eY:Ys[n]? =some Y:=by have:=congrArg (·[0]?) e2;simpa[List.getElem?_drop]using this
   have dX:Xs.drop (n+1)=Xr:=by have:=congrArg (List.drop 1) e1;simpa[List.drop_drop,Nat.add_comm]using this
   have dY:Ys.drop (n+1)=Yr:=by have:=congrArg (List.drop 1) e2;simpa[List.drop_drop,Nat.add_comm]using this
   simp only[zjq]at j;split at j
   ·rename_i c Z h2 h3 h4;have Z:=kV Z;have ih':=ih (d0:=d0) h4 (by rw[dX];exact r2) (by rw[dY];exact r4);have key:∃d,zF P f.type=some false/\yb P (d0+1) f.type X Y=some d/\b=(d&&c):=by
     split at j
     ·rename_i p q H;cases j;simp only[Rel]at O I;subst O I;exact⟨decide (p=q),by simp[zF,H],by simp only[yb,H,zfE],rfl⟩
     ·rename_i kk k p k' q H;split at j
      ·rename_i hk;cases j;simp only[Rel]at O I;subst O I;exact⟨decide (p=q),by simp[zF,H],by simp only[yb,H,hk,if_true,zjr],rfl⟩
      ·cases j
     ·rename_i p q H;cases j;simp only[Rel]at O I;subst O I;exact⟨decide (p=q),by simp[zF,H],by simp only[yb,H,Y8,zfD],rfl⟩
     ·cases j
    obtain⟨d,B,U,rfl⟩:=key;have pX:z7 P f.type Xs f.offset=some X:=by unfold z7;rw[B,h3,Z];exact eX
    have pY:z7 P f.type Ys f.offset=some Y:=by unfold z7;rw[B,h3,Z];exact eY
    cases r with
    |nil=>
     have hc:c=true:=by cases xr<;>cases yr<;>simp only[zjq,reduceCtorEq,Option.some.injEq]at h4;exact h4.symm
     subst hc;simp only[Je,h2,pX,pY,U,Bool.and_true];rfl
    |cons g s=>
     rw[Je]
     ·simp only[h2,pX,pY,U,ih'];rfl
     ·intro hh;cases hh
   ·cases j
theorem XU{F:TypeId->Value->Value->Option Bool}{xs y:List Value}{f:Field}{r:List Field}{b c:Bool}(j:Je P F xs y [f]=some b)(B:Je P F xs y r=some c):
  Je P F xs y (f::r)=some (b&&c):=by
 cases r with
 |nil=>simp only[Je,Option.some.injEq]at B;subst B;rw[Bool.and_true];exact j
 |cons g s=>
  rw[Je]at j;rw[Je]
  ·split at j
   ·cases j
   ·rename_i H;rw[if_neg H];split at j
    ·rename_i a I ha J;simp only[j,B]
    ·cases j
  ·intro hh;cases hh
theorem zuF{t:TypeId}{x y:AV}{X Y:Value}{b:Bool}{d:Nat}(h:eq1 P t x y=some b)(H:Rel L R x X)(B:Rel L R y Y):zF P t=some false/\yb P (d+1) t X Y=some b:=by
 unfold eq1 at h;split at h
 ·rename_i p q j;cases h;simp only[Rel]at H B;subst H B;exact⟨by simp[zF,j],by simp only[yb,j,zfE]⟩
 ·rename_i I k p J q j;split at h
  ·rename_i hk;cases h;simp only[Rel]at H B;subst H B;exact⟨by simp[zF,j],by simp only[yb,j,hk,if_true,zjr]⟩
  ·cases h
 ·rename_i p q j;cases h;simp only[Rel]at H B;subst H B;exact⟨by simp[zF,j],by simp only[yb,j,Y8,zfD]⟩
 ·cases h
theorem zyI:∀{fs:List Field}{n:Nat}{xs J:List AV}{Xs Ys:List Value}{b:Bool},zqv P fs n xs J=some b->
  RelL L R xs (Xs.drop n)->RelL L R J (Ys.drop n)->Je P (yb P 7) Xs Ys fs=some b:=by
 intro fs;induction fs with
 |nil=>intro n xs J Xs Ys b B _ _;cases xs<;>cases J<;>simp only[zqv,reduceCtorEq,Option.some.injEq]at B;subst B;rfl
 |cons f r ih=>
  intro n xs J Xs Ys b B rx ry;simp only[zqv]at B;split at B
  ·rename_i k gs H h2 I h4;split at B
   ·rename_i b1 c1 g1 O g3 g4 g5;cases B;have H:=kV H;have O:=mI O;have g3:=mI g3;have ih':=ih g5 (by have:=rx.drop (k+1);rwa [mT]at this) (by have:=ry.drop (k+1);rwa [mT]at this);have j:zF P f.type=some true:=by simp[zF,h4]
    have e:=zpn (Xs:=(Xs.drop n).take (k+1)) (Ys:=(Ys.drop n).take (k+1)) (d0:=5) g4 (by simpa using rx.take (k+1)) (by simpa using ry.take (k+1));refine XU ?_ ih';have Z:z7 P f.type Xs f.offset=some (.agg ((Xs.drop n).take (k+1)).toArray):=by unfold z7;rw[j,I,H]
    have pY:z7 P f.type Ys f.offset=some (.agg ((Ys.drop n).take (k+1)).toArray):=by unfold z7;rw[j,I,H]
    have e7:yb P 7 f.type (.agg ((Xs.drop n).take (k+1)).toArray) (.agg ((Ys.drop n).take (k+1)).toArray)=some b1:=by simp only[yb,h4,g1,mR,if_false];exact e
    simp only[Je,h2,Z,pY,e7,mR,if_false]
   ·cases B
  ·rename_i _ H h2 I _;split at B
   ·rename_i x xr y yr;split at B
    ·rename_i b1 c1 g1 O;cases B;have H:=kV H;obtain⟨X,Xr,e1,r1,r2⟩:=rx;obtain⟨Y,Yr,e2,r3,r4⟩:=ry;have eX:Xs[n]? =some X:=by have:=congrArg (·[0]?) e1;simpa[List.getElem?_drop]using this
     have eY:Ys[n]? =some Y:=by have:=congrArg (·[0]?) e2;simpa[List.getElem?_drop]using this
     have dX:Xs.drop (n+1)=Xr:=by have:=congrArg (List.drop 1) e1;simpa[List.drop_drop,Nat.add_comm]using this
     have dY:Ys.drop (n+1)=Yr:=by have:=congrArg (List.drop 1) e2;simpa[List.drop_drop,Nat.add_comm]using this
     obtain⟨j,U⟩:=zuF (d:=6) g1 r1 r3;have Z:z7 P f.type Xs f.offset=some X:=by unfold z7;rw[j,I,H];exact eX
     have pY:z7 P f.type Ys f.offset=some Y:=by unfold z7;rw[j,I,H];exact eY
     refine XU ?_ (ih O (by rw[dX];exact r2) (by rw[dY];exact r4));simp only[Je,h2,Z,pY,U,mR,if_false]
    ·cases B
   ·cases B
  ·cases B
theorem zjp{F:List Field->List AV->List AV->Bool->Option Bool}{D:Nat}
  (hF:∀{gs:List Field}{xs I:List AV}{Xs Ys:List Value}{c b:Bool},F gs xs I c=some b->RelL L R xs Xs->RelL L R I Ys->∃U,b=(U&&c)/\Je P (yb P D) Xs Ys gs=some U):
  ∀{fs:List Field}{n:Nat}{xs I:List AV}{Xs Ys:List Value}{c b:Bool},zll P F fs n xs I c=some b->
  RelL L R xs (Xs.drop n)->RelL L R I (Ys.drop n)->∃U,b=(U&&c)/\Je P (yb P (D+1)) Xs Ys fs=some U:=by
 intro fs;induction fs with
 |nil=>intro n xs I Xs Ys c b B _ _;cases xs<;>cases I<;>simp only[zll,reduceCtorEq,Option.some.injEq]at B;subst B;exact⟨true,by simp,rfl⟩
 |cons f r ih=>
  intro n xs I Xs Ys c b B rx ry;simp only[zll]at B;split at B
  ·rename_i k gs H h2 O h4;split at B
   ·rename_i d1 g1 g2 g3 g5;have H:=kV H;have g2:=mI g2;have g3:=mI g3;obtain⟨b2,rfl,J⟩:=ih g5 (by have:=rx.drop (k+1);rwa [mT]at this) (by have:=ry.drop (k+1);rwa [mT]at this);have j:zF P f.type=some true:=by simp[zF,h4]
    obtain⟨Z,rfl,e⟩:=hF B (Xs:=(Xs.drop n).take (k+1)) (Ys:=(Ys.drop n).take (k+1)) (rx.take (k+1)) (ry.take (k+1));refine⟨Z&&b2,by rw[Bool.and_assoc],XU ?_ J⟩;have pX:z7 P f.type Xs f.offset=some (.agg ((Xs.drop n).take (k+1)).toArray):=by unfold z7;rw[j,O,H]
    have pY:z7 P f.type Ys f.offset=some (.agg ((Ys.drop n).take (k+1)).toArray):=by unfold z7;rw[j,O,H]
    have e7:yb P (D+1) f.type (.agg ((Xs.drop n).take (k+1)).toArray) (.agg ((Ys.drop n).take (k+1)).toArray)=some Z:=by simp only[yb,h4,g1,mR,if_false];exact e
    simp only[Je,h2,pX,pY,e7,mR,if_false]
   ·cases B
  ·rename_i _ H h2 O _;split at B
   ·rename_i x xr y yr;split at B
    ·rename_i Z d1 g1 g2;cases B;have H:=kV H;obtain⟨X,Xr,e1,r1,r2⟩:=rx;obtain⟨Y,Yr,e2,r3,r4⟩:=ry;have eX:Xs[n]? =some X:=by have:=congrArg (·[0]?) e1;simpa[List.getElem?_drop]using this
     have eY:Ys[n]? =some Y:=by have:=congrArg (·[0]?) e2;simpa[List.getElem?_drop]using this
     have dX:Xs.drop (n+1)=Xr:=by have:=congrArg (List.drop 1) e1;simpa[List.drop_drop,Nat.add_comm]using this
     have dY:Ys.drop (n+1)=Yr:=by have:=congrArg (List.drop 1) e2;simpa[List.drop_drop,Nat.add_comm]using this
     obtain⟨j,heq⟩:=zuF (d:=D) g1 r1 r3;have pX:z7 P f.type Xs f.offset=some X:=by unfold z7;rw[j,O,H];exact eX
     have pY:z7 P f.type Ys f.offset=some Y:=by unfold z7;rw[j,O,H];exact eY
     obtain⟨b2,rfl,J⟩:=ih g2 (by rw[dX];exact r2) (by rw[dY];exact r4);refine⟨Z&&b2,by rw[Bool.and_assoc],XU ?_ J⟩;simp only[Je,h2,pX,pY,heq,mR,if_false]
    ·cases B
   ·cases B
  ·cases B
theorem zyH{fs:List Field}{xs j:List AV}{Xs Ys:List Value}{b:Bool}(h:zBs P fs xs j=some b)(U:RelL L R xs Xs)(O:RelL L R j Ys):Je P (yb P 7) Xs Ys fs=some b:=by obtain⟨b0,rfl,e⟩:=zjp (L:=L) (R:=R) (D:=6) (fun B r1 y=>zjp (L:=L) (R:=R) (D:=5) (fun J H Z=>zjp (L:=L) (R:=R) (D:=4) (fun I _ _=>by cases I) J (by simpa using H) (by simpa using Z)) B (by simpa using r1) (by simpa using y)) h (by simpa using U) (by simpa using O);rw[Bool.and_true];exact e
theorem RoRow.sliced{R:Ro}{full:Bool}{n:Nat}{V:Value}{C:List Value->Prop}(h:RoRow R full n V C)(j:n≠0):∃a n y,V=.slice (some a) n y:=by
 rcases h with⟨h,_⟩|⟨b,off,cap,cs,T,fr,seg,tl,h,_⟩
 ·exact absurd h j
 ·exact⟨_,_,_,h⟩
theorem zbH{x:AV}{X:Value}{c:Bool}(h:zfg x=some (true,c))(B:Rel L R x X):∃a n j,X=.slice a n j/\c=a.isNone:=by
 have I:∀{full:Bool}{n:Nat}{C:List Value->Prop},Nat.ble 1 n=true->RoRow R full n X C->∃a n j,X=.slice (some a) n j:=fun y O=>RoRow.sliced O (by have:=mI y;omega)
 cases x<;>simp only[zfg,reduceCtorEq,Option.some.injEq,Prod.mk.injEq,true_and]at h;case nils=>subst h;exact⟨none,0,0,B,rfl⟩
 case rwp=>subst h;obtain⟨f,_,_,_,rfl⟩:=B;exact⟨_,_,_,rfl,rfl⟩
 case rwf=>subst h;obtain⟨f,_,_,_,rfl⟩:=B;exact⟨_,_,_,rfl,rfl⟩
 case rob=>obtain⟨y,rfl⟩:=h;obtain⟨a,n,j,rfl⟩:=I y B;exact⟨_,_,_,rfl,rfl⟩
 case roi=>obtain⟨y,rfl⟩:=h;obtain⟨a,n,j,rfl⟩:=I y B;exact⟨_,_,_,rfl,rfl⟩
 case ros=>obtain⟨y,rfl⟩:=h;obtain⟨a,n,j,rfl⟩:=I y B;exact⟨_,_,_,rfl,rfl⟩
 case rov=>obtain⟨y,rfl⟩:=h;obtain⟨a,n,j,rfl⟩:=I y B.2;exact⟨_,_,_,rfl,rfl⟩
 case rws=>obtain⟨H,rfl⟩:=h;have H:=of_decide_eq_true H;obtain⟨f,_,_,_,_,a,j,rfl,_,J⟩:=B;obtain⟨_,rfl⟩:=J H;exact⟨_,_,_,rfl,rfl⟩
 case rwc=>obtain⟨H,rfl⟩:=h;have H:=of_decide_eq_true H;obtain⟨f,_,⟨_,_,_,a,j,rfl,_,J⟩,_⟩:=B;obtain⟨_,rfl⟩:=J H;exact⟨_,_,_,rfl,rfl⟩
theorem zyX{op:BinOp}{t:TypeId}{x y v:AV}{X Y:Value}(h:zAP P op t x y=some (true,v))(B:Rel L R x X)(j:Rel L R y Y):
  ∃m:Vc.Mode,∃c V,KU P m op t X Y=some (c,V)/\jl c/\Rel L R v V:=by
 unfold zAP at h;split at h
 ·rename_i k k' b;obtain⟨n,hn,rfl⟩:=B;simp only[Rel]at j;subst j;split at h
  ·rename_i hk J;have J:b<=0:=by simpa using J
   cases h;obtain⟨m,c,V,H,I,U⟩:=zbi (L:=L) (R:=R) (op:=.eql) (k:=k) (a:=n) (b:=b) (v:=.bool (decide (n=b))) rfl;rw[decide_eq_false (by omega)]at U;exact⟨m,c,V,by simp only[KU,hk,if_true,H],I,U⟩
  ·rename_i hk J;have J:b<=0:=by simpa using J
   cases h;obtain⟨m,c,V,H,I,U⟩:=zbi (L:=L) (R:=R) (op:=.neq) (k:=k) (a:=n) (b:=b) (v:=.bool (!decide (n=b))) rfl;rw[decide_eq_false (by omega)]at U;exact⟨m,c,V,by simp only[KU,hk,if_true,H],I,U⟩
  ·cases h
 ·rename_i k a k' b;simp only[Rel]at B j;subst B j;split at h
  ·simp only[Option.some.injEq,Prod.mk.injEq,kY,zh,decide_eq_true_eq,uAB]at h;obtain⟨⟨H,I⟩,rfl⟩:=h;exact⟨.exact,_,_,rfl,⟨H,by omega⟩,rfl⟩
  ·simp only[Option.some.injEq,Prod.mk.injEq,kY,zh,decide_eq_true_eq,uAB]at h;obtain⟨⟨H,I⟩,rfl⟩:=h;exact⟨.exact,_,_,rfl,⟨H,by omega⟩,rfl⟩
  ·split at h
   ·rename_i H I _ hk;obtain⟨m,c,V,g1,g2,g3⟩:=zbi (L:=L) (R:=R) h;refine⟨m,c,V,?_,g2,g3⟩;cases op<;>first|exact (H rfl).elim|exact (I rfl).elim|simp only[KU,hk,if_true,g1]
   ·cases h
 ·simp only[Rel]at B j;subst B j;obtain⟨c,V,H,I,U⟩:=znJ (L:=L) (R:=R) h;exact⟨.exact,c,V,by simp only[KU,H],I,U⟩
 ·rename_i a b;simp only[Rel]at B j;subst B j;split at h<;>simp only[Option.some.injEq,Prod.mk.injEq,true_and,reduceCtorEq]at h;all_goals
   rename_i O;subst h;exact⟨.exact,none,_,by simp only[KU,O,znL];rfl,trivial,by simp only[Rel,zfE]⟩
 ·rename_i xs Z;obtain⟨Xs,rfl,B⟩:=B;obtain⟨Ys,rfl,j⟩:=j;have key:∀{c:Bool},zuE P t xs Z=some c->P.eqGuardType P.depth t=false/\yb P 8 t (.agg Xs.toArray) (.agg Ys.toArray)=some c:=by
   intro c hc;unfold zuE at hc;split at hc
   ·rename_i fs O hg hs;refine⟨hg,?_⟩;simp only[yb,O,hs,mR,if_false];split at hc
    ·rename_i b J;cases hc;exact zpn (d0:=6) J (by simpa using B) (by simpa using j)
    ·split at hc
     ·rename_i b J;cases hc;exact zyI J (by simpa using B) (by simpa using j)
     ·exact zyH hc (by simpa using B) (by simpa using j)
   ·cases hc
  split at h<;>simp only[Option.some.injEq,Prod.mk.injEq,true_and,reduceCtorEq]at h;all_goals
   rename_i c hc;obtain⟨H,I⟩:=key hc;subst h;exact⟨.exact,none,_,by simp only[KU,H,I,mR,if_false],trivial,rfl⟩
 ·have j:Y=.slice none 0 0:=j;subst j;split at h
  ·rename_i e c O hc;cases h;obtain⟨a,n,cp,rfl,rfl⟩:=zbH hc B;exact⟨.exact,none,_,by simp only[KU,O],trivial,rfl⟩
  ·rename_i e c O hc;cases h;obtain⟨a,n,cp,rfl,rfl⟩:=zbH hc B;exact⟨.exact,none,_,by simp only[KU,O],trivial,rfl⟩
  ·cases h
 ·cases h
theorem zkE(v:Value):Rel L R (zf6 v) v:=by
 unfold zf6;split<;>(try exact rfl)
 ·split
  ·rename_i f first cap y j
   exact⟨[],[],by simp[Array.toList_eq_nil_iff.1 y,Array.toList_eq_nil_iff.1 j],rfl,rfl⟩
  ·trivial
 ·trivial
theorem JS:∀(l:List Value),RelL L R (l.map zf6) l
 |[]=>rfl
 |v::r=>⟨v,r,rfl,zkE v,JS r⟩
theorem zo5(v:Value):Rel L R (ofV v) v:=by
 unfold ofV;split
 ·rename_i cs;exact⟨cs.toList,rfl,JS _⟩
 ·exact zkE v
def GlobOK(gl:Glob)(R:Ro):Prop:=∀g,Rel (fun _=>none) R (jW gl g) (.pointer (some ⟨g,0,none⟩))
theorem Ja:∀(gl:Glob)(g:Nat),idsV (jW gl g)=[]
 |[],_=>rfl
 |(h,v)::r,g=>by
  simp only[jW];split
  ·rfl
  ·exact Ja r g
theorem Qy{gl:Glob}(j:GlobOK gl R){s:Slots}{a:Act}(y:∀t,Rel L R (get s t) (a.tmps.getD t undef))(x:Operand):Rel L R (opnd gl s x) (a.eval x):=by
 cases x with
 |tmp t=>exact y t
 |const v=>exact zo5 v
 |global g=>exact zj (fun _ _ h=>h) _ _ (by simp[opnd,Ja]) (j g)
 |func f=>exact⟨[],[],rfl,rfl,rfl⟩
theorem Qw{t:TypeId}{cs:List AV}{off:Nat}{v:AV}{vs:List Value}(h:Qx P t cs off=some v)(y:RelL L R cs vs):
  ∃V n,z7 P t vs off=some V/\Rel L R v V/\zH P t=some n/\off+n<=vs.length:=by
 unfold Qx at h;split at h
 ·rename_i n ha j;split at h
  ·rename_i B;cases h;exact⟨_,n,by simp only[z7,ha,j],⟨_,rfl,(y.drop off).take n⟩,j,by have:=mI B;rw[y.length]at this;exact this⟩
  ·cases h
 ·rename_i ha j;obtain⟨V,e,hv⟩:=y.get h;exact⟨V,1,by simp only[z7,ha,j];exact e,hv,j,(kX.1 e).1⟩
 ·cases h
theorem zg5(off:Nat):∀(vs:List Value)(k:Nat)(cs:Array Value)(p:Nat),off+k+vs.length<=cs.size->
  ((vs.zipIdx k).foldl (fun(cs:Array Value)(x:Value×Nat)=>cs.setIfInBounds (off+x.2) x.1) cs)[p]? =if off+k<=p/\p<off+k+vs.length then vs[p-(off+k)]? else cs[p]?
 |[],k,cs,p,_=>by rw[if_neg (by simp)];rfl
 |v::r,k,cs,p,hle=>by
  simp only[List.zipIdx_cons,List.foldl_cons];rw[zg5 off r (k+1) _ p (by simp at hle⊢;omega)];by_cases j:off+(k+1)<=p/\p<off+(k+1)+r.length
  ·rw[if_pos j,if_pos (by simp;omega),show p-(off+k)=(p-(off+(k+1)))+1 by omega];simp
  ·rw[if_neg j];by_cases B:p=off+k
   ·subst B;rw[if_pos (by simp)];simp only[mC]at hle;have y:off+k<cs.size:=by omega
    simp[y]
   ·rw[if_neg (by simp;omega),uAb (by omega)]
theorem zna(off:Nat)(vs:List Value)(cs:Array Value)(B:off+vs.length<=cs.size):
  (vs.toArray.zipIdx.foldl (fun cs x=>cs.setIfInBounds (off+x.2) x.1) cs).toList=cs.toList.take off++vs++cs.toList.drop (off+vs.length):=by
 rw[<-Array.foldl_toList];apply uAI;intro p;have h:=zg5 off vs 0 cs p (by omega);simp only[uAu]at h;have h':((vs.toArray.zipIdx.toList).foldl (fun(cs:Array Value)(x:Value×Nat)=>cs.setIfInBounds (off+x.2) x.1) cs).toList[p]? =if off<=p/\p<off+vs.length then vs[p-off]? else cs[p]? :=by rw[uAM,<-h];simp
 rw[h'];have j:(cs.toList.take off).length=off:=by simp;omega
 by_cases y:off<=p/\p<off+vs.length
 ·rw[if_pos y,mB,nD (by omega),j,mN (by omega)]
 ·rw[if_neg y];by_cases H:p<off
  ·rw[mB,mN (by omega),uAN,if_pos H];simp
  ·rw[nD (by simp;omega)];simp only[kW,j,mY];rw[show off+vs.length+(p-(off+vs.length))=p by omega];simp
theorem W8{B:Nat->Option (Nat×Nat)}:∀{y:List (Nat×AV)}{l U:List AV}{cs:Array Value}{parts':List (Nat×Value)},
  zfy B l y=some U->RelL L R l cs.toList->y.map (·.1)=parts'.map (·.1)->RelL L R (y.map (·.2)) (parts'.map (·.2))->
  ∃H,Instr.fill B cs parts'=some H/\RelL L R U H.toList:=by
 intro y;induction y with
 |nil=>
  intro l U cs parts' h O I _;simp only[zfy,Option.some.injEq]at h;subst h;cases parts' with
  |nil=>exact⟨cs,rfl,O⟩
  |cons _ _=>simp at I
 |cons p r ih=>
  intro l U cs parts' h O I h2;obtain⟨i,v⟩:=p;cases parts' with
  |nil=>simp at I
  |cons q r'=>
   obtain⟨i',V⟩:=q;simp only[nO,List.cons.injEq]at I h2;obtain⟨rfl,I⟩:=I;obtain⟨u,us,e,hv,h3⟩:=h2;simp only[List.cons.injEq]at e;obtain⟨rfl,rfl⟩:=e;simp only[zfy]at h;split at h
   ·cases h
   ·rename_i off n hp;split at h
    ·rename_i Z J ho;have Z:=kV Z;have J:=mI J;obtain⟨vs,e1,e2,_⟩:=hv.cells ho;have hlen:vs.length=n:=by rw[<-e2.length,Z]
     have hsz:l.length=cs.size:=by rw[O.length];simp
     obtain⟨H,h4,h5⟩:=ih (cs:=(V.cells.zipIdx.foldl (fun cs(c,j)=>cs.setIfInBounds (off+j) c) cs)) h (by
      rw[e1];have:=zna off vs cs (by omega);rw[this];exact O.setL e2 off) I h3
     refine⟨H,?_,h5⟩;simp only[Instr.fill,hp];have hc:¬((decide (V.cells.size≠n)||decide (off+V.cells.size>cs.size))=true):=by rw[e1];simp;omega
     rw[if_neg hc];exact h4
    ·cases h
theorem ze1(ev:Operand->AV):∀(l:List (Nat×Operand)),(X0 ev l).map (·.1)=l.map (·.1)
 |[]=>rfl
 |(i,x)::r=>by simp[X0,ze1 ev r]
theorem ze0{ev:Operand->AV}{ρ:Operand->Value}(h:∀x,Rel L R (ev x) (ρ x)):∀(l:List (Nat×Operand)),RelL L R ((X0 ev l).map (·.2)) (l.map fun p=>ρ p.2)
 |[]=>rfl
 |(_i,x)::r=>⟨_,_,rfl,h x,ze0 h r⟩
theorem zgL(ρ:Operand->Value):∀(l:List (Nat×Operand)),zmJ (fun x=>some (ρ x)) l=some (l.map fun p=>(p.1,ρ p.2))
 |[]=>rfl
 |(i,x)::r=>by simp[zmJ,zgL ρ r]
theorem zgJ(ρ:Operand->Value):∀(l:List Operand),zkI (fun x=>some (ρ x)) l=some (l.map ρ)
 |[]=>rfl
 |x::r=>by simp[zkI,zgJ ρ r]
theorem Qs{ev:Operand->AV}{ρ:Operand->Value}(h:∀x,Rel L R (ev x) (ρ x)):∀(l:List Operand),RelL L R (l.map ev) (l.map ρ)
 |[]=>rfl
 |x::r=>⟨_,_,rfl,h x,Qs h r⟩
theorem Qb{t:TypeId}{cs:List AV}(h:zgk P t=some cs):∃vs,zjU P t=some vs/\RelL L R cs vs:=by
 unfold zgk at h;split at h
 ·rename_i vs hv;cases h;exact⟨vs,hv,JS vs⟩
 ·cases h
theorem zqD{t:TypeId}{j:List (Nat×AV)}{v:AV}{parts':List (Nat×Value)}(h:znx P t j=some v)(h1:j.map (·.1)=parts'.map (·.1))
  (h2:RelL L R (j.map (·.2)) (parts'.map (·.2))):∃V,KT P t parts'=some V/\Rel L R v V:=by
 have zi:∀{z:List AV},zgk P t=some z->∃i H,P.info? t=some i/\i.zero=some H/\RelL L R z H.cells.toList:=by
  intro z J;obtain⟨vs,B,I⟩:=Qb (L:=L) (R:=R) J;unfold zjU at B;split at B
  ·rename_i i hi;split at B
   ·rename_i H hzv;cases B;exact⟨i,H,hi,hzv,I⟩
   ·cases B
  ·cases B
 unfold znx at h;split at h
 ·rename_i O z U J;obtain⟨i,H,B,I,e3⟩:=zi J;split at h
  ·rename_i places hp;split at h
   ·rename_i cs Z;cases h;obtain⟨y,e4,e5⟩:=W8 Z e3 h1 h2;exact⟨.agg y,by simp only[KT,B,U,I,hp,e4],⟨y.toList,rfl,e5⟩⟩
   ·cases h
  ·cases h
 ·rename_i n elem z U J;obtain⟨i,H,B,I,e3⟩:=zi J;split at h
  ·rename_i size hs;split at h
   ·rename_i cs Z;cases h;obtain⟨y,e4,e5⟩:=W8 Z e3 h1 h2;exact⟨.agg y,by simp only[KT,B,U,I,hs,e4],⟨y.toList,rfl,e5⟩⟩
   ·cases h
  ·cases h
 ·cases h
theorem RoRow.row{full:Bool}{n:Nat}{V:Value}{C:List Value->Prop}(h:RoRow R full n V C):∃a cap,V=.slice a n cap:=by
 rcases h with⟨rfl,a,cap,h,_⟩|⟨b,off,cap,cs,T,fr,seg,tl,h,_⟩
 ·exact⟨a,cap,h⟩
 ·exact⟨_,cap,h⟩
theorem RoRow.at_{full:Bool}{n:Nat}{V:Value}{C:List Value->Prop}(h:RoRow R full n V C)(I:0<n):
  ∃b off cap cs T fr seg tl,V=.slice (some ⟨b,off,none⟩) n cap/\R b=some (.cells cs T fr)/\cs.toList.drop off=seg++tl/\C seg:=by
 rcases h with⟨rfl,_⟩|⟨b,off,cap,cs,T,fr,seg,tl,j,_,_,H,B,y⟩
 ·omega
 ·exact⟨b,off,cap,cs,T,fr,seg,tl,j,H,B,y⟩
theorem zB{i:Int}{n:Nat}:zw i n=true↔0<=i/\i<(n:Int):=by simp[zw]
theorem zK{j y:Int}{n:Nat}:jb j y n=true↔0<=j/\j<=y/\y<=(n:Int):=by simp[jb,and_assoc]
theorem zyx{G:List Res}{h:Heap}{R:Ro}{v:AV}{V:Value}{n:Int}(j:ziR h v=some n)(y:Rel (look G h) R v V):
  ∃a k cap,V=.slice a k cap/\n=(k:Int):=by
 unfold ziR at j;split at j
 ·cases j;simp only[Rel]at y;exact⟨none,0,0,y,rfl⟩
 ·rename_i i;split at j
  ·rename_i o ho;cases j;obtain⟨f,B,J,I⟩:=y;obtain⟨o',r,H,O,rfl⟩:=zx B;rw[ho]at H;cases H;cases hv:r.virt
   ·exact⟨_,_,_,I hv,rfl⟩
   ·have:=J hv;simp only at this;exact⟨_,_,_,this.2,by rw[this.1]⟩
  ·cases j
 ·rename_i i;split at j
  ·rename_i o ho;cases j;obtain⟨f,B,J,U,I⟩:=y;obtain⟨o',r,H,O,rfl⟩:=zx B;rw[ho]at H;cases H;exact⟨_,_,_,I,rfl⟩
  ·cases j
 ·cases j;obtain⟨f,_,B,J,I,a,cap,rfl,_⟩:=y;exact⟨a,_,cap,rfl,by omega⟩
 all_goals first
  |(cases j;done)
  |(
   simp only[Option.some.injEq]at j;subst j;simp only[Rel]at y;first
    |(obtain⟨f,_,⟨B,J,I,a,cap,rfl,_⟩,_⟩:=y;exact⟨a,_,cap,rfl,by omega⟩)
    |(obtain⟨a,cap,h⟩:=y.row;exact⟨a,_,cap,h,rfl⟩)
    |(obtain⟨a,cap,h⟩:=y.2.row;exact⟨a,_,cap,h,rfl⟩))
theorem zvf{l:uAS}{I H:Option AV}{v:AV}{lo' hi':Option Value}(h:zzJ l I H=some (true,v))
  (j:match I,lo' with|none,none=>True|some x,some X=>Rel L R x X|_,_=>False) (y:match H,hi' with|none,none=>True|some x,some X=>Rel L R x X|_,_=>False):
  ∃c V,zhI (bs l) lo' hi'=some (c,V)/\jl c/\Rel L R v V:=by
 unfold zzJ at h;split at h
 ·cases h;cases lo' with
  |some _=>exact j.elim
  |none=>cases hi' with
   |some _=>exact y.elim
   |none=>exact⟨_,_,rfl,trivial,rfl⟩
 ·rename_i k n;simp only[Option.some.injEq,Prod.mk.injEq]at h;obtain⟨B,rfl⟩:=h;have B:=zK.1 B;cases lo' with
  |none=>exact j.elim
  |some X=>cases hi' with
   |some _=>exact y.elim
   |none=>simp only[Rel]at j;subst j;exact⟨_,_,rfl,by(simp only[jl,Y8];try omega),by simp only[Rel,Y8]⟩
 ·rename_i k n;simp only[Option.some.injEq,Prod.mk.injEq]at h;obtain⟨B,rfl⟩:=h;have B:=zK.1 B;cases lo' with
  |some _=>exact j.elim
  |none=>cases hi' with
   |none=>exact y.elim
   |some X=>simp only[Rel]at y;subst y;exact⟨_,_,rfl,by(simp only[jl,Y8];try omega),by simp only[Rel,Y8]⟩
 ·rename_i k n O J;simp only[Option.some.injEq,Prod.mk.injEq]at h;obtain⟨B,rfl⟩:=h;have B:=zK.1 B;cases lo' with
  |none=>exact j.elim
  |some X=>cases hi' with
   |none=>exact y.elim
   |some Y=>simp only[Rel]at j y;subst j y;exact⟨_,_,rfl,by(simp only[jl,Y8];try omega),by simp only[Rel,Y8]⟩
 ·cases h
theorem qn:∀(a b:List AV),idsL (a++b)=idsL a++idsL b
 |[],_=>rfl
 |v::r,b=>by simp[idsL,qn r b]
theorem XM:∀{l:List AV}{i:Nat}{v:AV},idsL l=[]->l[i]? =some v->idsV v=[]
 |[],_,_,_,h=>by simp at h
 |x::r,0,v,h0,h=>by simp at h;subst h;simp[idsL]at h0;exact h0.1
 |x::r,i+1,v,h0,h=>by simp[idsL]at h0;exact XM h0.2 (by simpa using h)
theorem zma{v:AV}{V:Value}(y:idsV v=[])(j:zL v=true)(h:∃b off ce T fr u tl,V=.pointer (some ⟨b,off,none⟩)/\R b=some (.cells ce T fr)/\ce.toList.drop off=u::tl/\Rel L R v u):Rel L R (.rp v) V:=by
 cases v with
 |agg cs=>cases j
 |_=>exact⟨y,j,h⟩
theorem Jl{z:Nat}:∀{l:List AV}{cs:List Value},RelR L R z l cs->cs.length=l.length*z
 |[],cs,h=>by have h:cs=[]:=h;subst h;simp
 |x::r,cs,hr=>by
  have key:(∃a b,cs=a++b/\a.length=z/\RelR L R z r b)\/(∃u B,cs=u::B/\z=1/\RelR L R z r B):=by
   cases x with
   |agg xs=>obtain⟨a,b,H,y,j,I⟩:=hr;exact .inl ⟨a,b,H,by rw[<-j.length,y],I⟩
   |_=>obtain⟨u,B,H,y,j,I,J⟩:=hr;exact .inr ⟨u,B,H,y,J⟩
  rcases key with⟨a,b,rfl,y,j⟩|⟨u,B,rfl,rfl,j⟩
  ·rw[kW,y,Jl j,mC,nU,uAh]
  ·rw[mC,Jl j,mC];omega
theorem RelR_get'{z:Nat}:∀{l:List AV}{cs:List Value},RelR L R z l cs->∀{i:Nat}{v:AV},l[i]? =some v->
  (∃xs,v=.agg xs/\xs.length=z/\RelL L R xs ((cs.drop (i*z)).take z))\/(zL v=true/\z=1/\∃u,cs[i]? =some u/\Rel L R v u)
 |[],_,_,i,v,h=>by simp at h
 |x::r,cs,hr,i,v,h=>by
  have key:(∃xs a b,x=.agg xs/\cs=a++b/\xs.length=z/\RelL L R xs a/\RelR L R z r b)\/(∃u O,cs=u::O/\z=1/\zL x=true/\Rel L R x u/\RelR L R z r O):=by
   cases x with
   |agg xs=>obtain⟨a,b,h1,J,y,B⟩:=hr;exact .inl ⟨xs,a,b,rfl,h1,J,y,B⟩
   |_=>obtain⟨u,O,h1,J,y,B,Z⟩:=hr;exact .inr ⟨u,O,h1,J,y,B,Z⟩
  rcases key with⟨xs,a,b,rfl,rfl,J,y,B⟩|⟨u,O,rfl,rfl,y,B,Z⟩
  ·have ha:a.length=z:=by rw[<-y.length,J]
   cases i with
   |zero=>simp only[uAw,Option.some.injEq]at h;subst h;refine .inl ⟨xs,rfl,J,?_⟩;rw[Nat.zero_mul,uAe,uAt (by omega),nX (by omega)];exact y
   |succ i=>
    simp only[uAm]at h;have hd:((a++b).drop ((i+1)*z))=b.drop (i*z):=by rw[nU,uAh,<-mT,<-ha,List.drop_left]
    rcases RelR_get' B h with⟨U,I,j,H⟩|⟨I,j,u,H,e4⟩
    ·exact .inl ⟨U,I,j,by rw[hd];exact H⟩
    ·refine .inr ⟨I,j,u,?_,e4⟩;subst j;rw[nD (by omega),ha];simpa using H
  ·cases i with
   |zero=>simp only[uAw,Option.some.injEq]at h;subst h;exact .inr ⟨y,rfl,u,rfl,B⟩
   |succ i=>
    simp only[uAm]at h;rcases RelR_get' Z h with⟨U,I,j,H⟩|⟨I,j,u',H,e4⟩
    ·refine .inl ⟨U,I,j,?_⟩;rw[show(i+1)*1=i*1+1 by omega,List.drop_succ_cons];exact H
    ·exact .inr ⟨I,j,u',by simpa using H,e4⟩
theorem zgz{v x:AV}(h:zn7 v=some (true,x)):zL v=true/\zL x=true/\(∀L R V,Rel L R v V->Rel L R x V)/\(idsV v=[]->idsV x=[]):=by
 unfold zn7 at h;split at h
 ·cases h;exact⟨rfl,rfl,fun _ _ _ h=>h,fun h=>h⟩
 ·cases h;exact⟨rfl,rfl,fun _ _ _ h=>h,fun h=>h⟩
 ·cases h;exact⟨rfl,rfl,fun _ _ _ h=>h,fun h=>h⟩
 ·cases h
theorem XI{U:Bool}{t:TypeId}{v x:AV}(h:zgO P U t v=some (true,x)):zF P t=some false/\zL v=true/\zL x=true/\(∀L R V,Rel L R v V->Rel L R x V)/\(idsV v=[]->idsV x=[]):=by
 unfold zgO at h;split at h
 ·rename_i B;simp only[Option.some.injEq,Prod.mk.injEq]at h;obtain⟨j,rfl⟩:=h;unfold zd at j;split at j
  ·rename_i k n;simp only[kEq,decide_eq_true_eq]at j;subst j;exact⟨by simp[zF,B],rfl,rfl,fun _ _ _ h=>h,fun h=>h⟩
  ·cases j
 ·rename_i B;simp only[Option.some.injEq,Prod.mk.injEq]at h;obtain⟨j,rfl⟩:=h;split at j
  ·exact⟨by simp[zF,B],rfl,rfl,fun _ _ _ h=>h,fun h=>h⟩
  ·cases j
 ·rename_i B;simp only[Option.some.injEq,Prod.mk.injEq]at h;obtain⟨j,rfl⟩:=h;split at j
  ·exact⟨by simp[zF,B],rfl,rfl,fun _ _ _ h=>h,fun h=>h⟩
  ·cases j
 ·rename_i B;split at h
  ·cases h;exact⟨by simp[zF,B],rfl,rfl,fun _ _ _ h=>h,fun h=>h⟩
  ·cases h
 ·rename_i e B;split at h
  ·simp only[Option.some.injEq,Prod.mk.injEq]at h;obtain⟨j,rfl⟩:=h;refine⟨by simp[zF,B],?_,rfl,?_,fun _=>rfl⟩
   ·unfold zmV at j;split at j
    ·rfl
    ·rfl
    ·cases j
   ·intro L R V y;unfold zmV at j;split at j
    ·rename_i f l;rcases y with⟨a,b,c,d,_⟩|⟨b,off,cap,cs,T,fr,seg,tl,H,_,I⟩
     ·exact .inl ⟨a,b,c,d,fun h=>by cases h⟩
     ·exact .inr ⟨b,off,cap,cs,T,fr,seg,tl,H,fun h=>(by cases h),I⟩
    ·have y:V=.slice none 0 0:=y;exact .inl ⟨rfl,none,0,y,fun h=>by cases h⟩
    ·cases j
  ·rename_i k _ _;simp only[Option.some.injEq,Prod.mk.injEq]at h;obtain⟨j,rfl⟩:=h;refine⟨by simp[zF,B],?_,rfl,?_,fun _=>rfl⟩
   ·unfold zmU at j;split at j
    ·rfl
    ·rfl
    ·cases j
   ·intro L R V y;unfold zmU at j;split at j
    ·rename_i f k' l;simp only[kEq,decide_eq_true_eq]at j;subst j;rcases y with⟨a,b,c,d,_⟩|⟨b,off,cap,cs,T,fr,seg,tl,H,_,I⟩
     ·exact .inl ⟨a,b,c,d,fun h=>by cases h⟩
     ·exact .inr ⟨b,off,cap,cs,T,fr,seg,tl,H,fun h=>(by cases h),I⟩
    ·have y:V=.slice none 0 0:=y;exact .inl ⟨rfl,none,0,y,fun h=>by cases h⟩
    ·cases j
  ·split at h
   ·split at h
    ·rename_i n hn;simp only[Option.some.injEq,Prod.mk.injEq]at h;obtain⟨j,rfl⟩:=h;refine⟨by simp[zF,B],?_,rfl,?_,fun _=>rfl⟩
     ·unfold KJ at j;split at j
      ·rfl
      ·rfl
      ·cases j
     ·intro L R V y;unfold KJ at j;split at j
      ·rename_i f z l;have j:=kV j;subst j;obtain⟨Z,y⟩:=y;refine⟨Z,?_⟩;rcases y with⟨a,b,c,d,_⟩|⟨b,off,cap,cs,T,fr,seg,tl,H,_,I⟩
       ·exact .inl ⟨a,b,c,d,fun h=>by cases h⟩
       ·exact .inr ⟨b,off,cap,cs,T,fr,seg,tl,H,fun h=>(by cases h),I⟩
      ·have y:V=.slice none 0 0:=y;exact⟨rfl,.inl ⟨rfl,none,0,y,fun h=>by cases h⟩⟩
      ·cases j
    ·cases h
   ·obtain⟨H,O,I,J⟩:=zgz h;exact⟨by simp[zF,B],H,O,I,J⟩
  ·obtain⟨H,O,I,J⟩:=zgz h;exact⟨by simp[zF,B],H,O,I,J⟩
 ·cases h
theorem Jg{cs:List AV}{k:Nat}(hk:k<cs.length):cs[k]? =some (zb (.agg cs) k):=by simp only[zb,kZ hk]
theorem zbz{J:Bool}{e:TypeId}{cs:List AV}:∀{n k:Nat}{xs:List AV},WG P J e (.agg cs) n k=some (true,xs)->k+xs.length<=cs.length->
  (∀L R vs,RelL L R cs vs->RelL L R xs ((vs.drop k).take xs.length))/\(idsL cs=[]->idsL xs=[])
 |0,_,xs,h,_=>by simp only[WG,Option.some.injEq,Prod.mk.injEq]at h;obtain⟨-,rfl⟩:=h;exact⟨fun _ _ _ _=>by simp[RelL],fun _=>rfl⟩
 |n+1,k,xs,h,hl=>by
  simp only[WG]at h;split at h
  ·rename_i d x e ys h2 Z;simp only[Option.some.injEq,Prod.mk.injEq,kY]at h;obtain⟨⟨rfl,rfl⟩,rfl⟩:=h;simp only[mC]at hl⊢;have hk:k<cs.length:=by omega
   obtain⟨_,_,_,g1,O⟩:=XI h2;obtain⟨I,U⟩:=zbz Z (by omega);refine⟨fun L R vs y=>?_,fun B=>?_⟩
   ·obtain⟨V,e1,H⟩:=y.get (Jg hk);obtain⟨j,rfl⟩:=kX.1 e1;rw[nH j,uAo];exact⟨_,_,rfl,g1 _ _ _ H,I _ _ _ y⟩
   ·simp only[idsL,O (XM B (Jg hk)),U B,mM]
  ·cases h
theorem zbA{J:Bool}{cs:List AV}:∀{fs:List (Nat×TypeId)}{k:Nat}{xs:List AV},WH P J (.agg cs) fs k=some (true,xs)->k+xs.length<=cs.length->
  (∀L R vs,RelL L R cs vs->RelL L R xs ((vs.drop k).take xs.length))/\(idsL cs=[]->idsL xs=[])
 |[],_,xs,h,_=>by simp only[WH,Option.some.injEq,Prod.mk.injEq]at h;obtain⟨-,rfl⟩:=h;exact⟨fun _ _ _ _=>by simp[RelL],fun _=>rfl⟩
 |f::r,k,xs,h,hl=>by
  simp only[WH]at h;split at h
  ·rename_i d x e ys h1 h2 Z;simp only[Option.some.injEq,Prod.mk.injEq,kY]at h;obtain⟨⟨rfl,rfl⟩,rfl⟩:=h;simp only[mC]at hl⊢;have hk:k<cs.length:=by omega
   obtain⟨_,_,_,g1,O⟩:=XI h2;obtain⟨I,U⟩:=zbA Z (by omega);refine⟨fun L R vs y=>?_,fun B=>?_⟩
   ·obtain⟨V,e1,H⟩:=y.get (Jg hk);obtain⟨j,rfl⟩:=kX.1 e1;rw[nH j,uAo];exact⟨_,_,rfl,g1 _ _ _ H,I _ _ _ y⟩
   ·simp only[idsL,O (XM B (Jg hk)),U B,mM]
  ·cases h
theorem ze3{v:AV}{n:Nat}(h:jS v n=true):∃cs,v=.agg cs/\cs.length=n:=by
 unfold jS at h;split at h
 ·exact⟨_,rfl,kV h⟩
 ·cases h
theorem shapeA_rel{U:Bool}{t:TypeId}{v x:AV}(h:zel P U t v=some (true,x)):
  (zF P t=some true/\∃cs xs,v=.agg cs/\x=.agg xs/\xs.length=cs.length/\(∀L R vs,RelL L R cs vs->RelL L R xs vs)/\(idsL cs=[]->idsL xs=[]))\/
  (zF P t=some false/\zL v=true/\zL x=true/\(∀L R V,Rel L R v V->Rel L R x V)/\(idsV v=[]->idsV x=[])):=by
 have whole:∀{cs xs:List AV},cs.length=xs.length->(∀L R vs,RelL L R cs vs->RelL L R xs ((vs.drop 0).take xs.length))->∀L R vs,RelL L R cs vs->RelL L R xs vs:=by intro cs xs y Z L R vs O;have:=Z L R vs O;rwa [uAe,nX (by rw[<-y,O.length];exact mA _)]at this
 unfold zel at h;split at h
 ·rename_i fs J;split at h
  ·split at h
   rotate_left
   ·cases h
   rename_i c xs H;simp only[Option.some.injEq,Prod.mk.injEq,kY]at h;obtain⟨⟨y,rfl⟩,rfl⟩:=h;obtain⟨cs,rfl,j⟩:=ze3 y;obtain⟨B,I⟩:=zbA H (by omega);exact .inl ⟨by simp[zF,J],cs,xs,rfl,rfl,j.symm,whole j B,I⟩
  ·cases h
 ·rename_i n e J;split at h
  ·rename_i c xs H;simp only[Option.some.injEq,Prod.mk.injEq,kY]at h;obtain⟨⟨y,rfl⟩,rfl⟩:=h;obtain⟨cs,rfl,j⟩:=ze3 y;obtain⟨B,I⟩:=zbz H (by omega);exact .inl ⟨by simp[zF,J],cs,xs,rfl,rfl,j.symm,whole j B,I⟩
  ·cases h
 ·exact .inr (XI h)
theorem zf5{z:Nat}:∀(i:Nat){l:List AV}{cs:List Value},RelR L R z l cs->RelR L R z (l.drop i) (cs.drop (i*z))
 |0,l,cs,h=>by simpa using h
 |i+1,[],cs,h=>by have h:cs=[]:=h;subst h;simp[RelR]
 |i+1,x::r,cs,hr=>by
  have key:(∃a b,cs=a++b/\a.length=z/\RelR L R z r b):=by
   cases x with
   |agg xs=>obtain⟨a,b,B,j,y,H⟩:=hr;exact⟨a,b,B,by rw[<-y.length,j],H⟩
   |_=>obtain⟨u,J,B,j,y,H,I⟩:=hr;exact⟨[u],J,B,by simp[j],I⟩
  obtain⟨a,b,rfl,j,y⟩:=key;have:=zf5 i y;rw[List.drop_succ_cons,nU,uAh,<-mT,<-j,List.drop_left,j];exact this
theorem K0{z:Nat}:∀(i:Nat){l:List AV}{cs:List Value},RelR L R z l cs->RelR L R z (l.take i) (cs.take (i*z))
 |0,l,cs,h=>by simp[RelR]
 |i+1,[],cs,h=>by have h:cs=[]:=h;subst h;simp[RelR]
 |i+1,x::r,cs,hr=>by
  cases x with
  |agg xs=>
   obtain⟨a,b,rfl,B,j,y⟩:=hr;have ha:a.length=z:=by rw[<-j.length,B]
   rw[uAo,nU,uAh,<-ha,List.take_length_add_append,ha];exact⟨a,_,rfl,B,j,K0 i y⟩
  |_=>obtain⟨u,I,rfl,rfl,j,y,H⟩:=hr;have:=K0 i H;rw[nC]at this;rw[nC,uAo,uAo];exact⟨u,_,rfl,rfl,j,y,this⟩
end
end Go.Am
