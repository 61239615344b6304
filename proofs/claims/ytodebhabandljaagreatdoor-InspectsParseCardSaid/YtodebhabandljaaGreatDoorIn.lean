/-
  A part of the proof of the laws.
-/
import Derived.Test.YtodebhabandljaaGreatDoorCr
import Derived.Test.YtodebhabandljaaGreatDoorAm26
import Derived.Lib.SlBytesRowKit
section
namespace Go.Am
open Go Go.RowKit Go.Vc
section
variable {E : Env} {T : Type} {r : T}
theorem zhf{j:Bool}{nid f:Nat}{y:List AV}{st:St}{k:AV->St->Option T}(h:yc E j nid f y st k=some r):
  ∃v st',k v st'=some r/\∀(T':Type)(H:AV->St->Option T'),yc E j nid f y st H=H v st':=by
 unfold yc at h⊢;simp only[]at h⊢;split at h
 ·rename_i I hv h1 h2 h3;obtain⟨o,B,_,O⟩:=ZP h;split at B
  ·rename_i v ho Z g2 g3 J;split at B
   ·rename_i U;exact⟨_,_,B,fun T' H=>by rw[O T'];simp only[Z,g2,g3,J,U]⟩
   ·rename_i U;split at B
    ·cases B
    ·refine⟨_,_,B,fun T' H=>?_⟩;rw[O T'];simp only[Z,g2,g3,J]
  ·cases B
 ·cases h
theorem zcA{j:Bool}{nid:Nat}{op:Op}{st:St}{k:AV->St->Option T}(h:opK E j nid op st k=some r):
  ∃v st',k v st'=some r/\∀(T':Type)(y:AV->St->Option T'),opK E j nid op st y=y v st':=by
 cases j with
 |true=>obtain⟨v,u,B,_,_,H⟩:=ziv h;exact⟨v,_,B,fun T' y=>H st (fun _ _=>rfl) (fun _=>rfl) (fun _ _ _=>rfl) T' y⟩
 |false=>
  have I:∀{op:Op},(∀(T:Type)(k:AV->St->Option T),opK E false nid op st k=opK E true nid op st k)->opK E false nid op st k=some r->
    ∃v st',k v st'=some r/\∀(T':Type)(y:AV->St->Option T'),opK E false nid op st y=y v st':=by
   intro op e h;rw[e]at h;obtain⟨v,u,B,_,_,H⟩:=ziv h;exact⟨v,_,B,fun T' y=>by rw[e];exact H st (fun _ _=>rfl) (fun _=>rfl) (fun _ _ _=>rfl) T' y⟩
  cases op with
  |call c=>
   obtain⟨callee,J,Z⟩:=c;cases callee with
   |value f=>
    simp only[opK]at h⊢;split at h
    ·exact zhf h
    ·obtain⟨g,B,H⟩:=zbb h;obtain⟨v,st',U,O⟩:=zhf B;exact⟨v,st',U,fun T' y=>by rw[H,O]⟩
    ·cases h
   |builtin b=>
    cases b with
    |append=>
     simp only[opK]at h⊢;split at h
     ·split at h
      ·rename_i bb cc o hg;cases bb with
       |false=>rw[cond_false]at h;exact⟨_,_,h,fun _ _=>by rw[cond_false]⟩
       |true=>rw[cond_true]at h;obtain⟨rfl,h⟩:=zm h;exact⟨_,_,h,fun _ _=>by rw[cond_true];rfl⟩
      ·split at h
       ·obtain⟨hc,h⟩:=zm h;exact⟨_,_,h,fun _ _=>by rw[hc];rfl⟩
       ·obtain⟨hc,h⟩:=zm h;exact⟨_,_,h,fun _ _=>by rw[hc];rfl⟩
       ·cases h
     ·contradiction
     ·cases h
    |_=>exact I (fun _ _=>rfl) h
   |_=>exact I (fun _ _=>rfl) h
  |range t x=>
   simp only[opK]at h⊢;split at h
   ·exact⟨_,_,h,fun _ _=>rfl⟩
   ·cases h
  |next x s=>
   cases s with
   |false=>exact I (fun _ _=>rfl) h
   |true=>
    simp only[opK]at h⊢;split at h
    ·rename_i i e1 e2;split at h
     ·rename_i l pos hg;cases hb:Nat.blt pos l.length with
      |true=>rw[hb]at h;exact⟨_,_,h,fun _ _=>by rw[cond_true]⟩
      |false=>rw[hb]at h;exact⟨_,_,h,fun _ _=>by rw[cond_false]⟩
     ·cases h
    ·cases h
  |_=>exact I (fun _ _=>rfl) h
theorem yB{j:Bool}{all:List Oper}:∀{l:List Oper}{nid:Nat}{st:St}{k:St->Option T},jN E j all l nid st k=some r->
  ∃st',k st'=some r/\∀(T':Type)(B:St->Option T'),jN E j all l nid st B=B st'
 |[],_,st,_,h=>⟨st,h,fun _ _=>rfl⟩
 |o::l,nid,st,k,h=>by
  simp only[jN]at h⊢;split at h
  ·cases h
  ·have U:∀{J:St},opK E j nid o.op J (fun v st'=>jN E j all l (nid+rsv o) ⟨putO o.dst v st'.s,st'.h⟩ k)=some r->∃st',k st'=some r/\
     ∀(T':Type)(B:St->Option T'),opK E j nid o.op J (fun v st'=>jN E j all l (nid+rsv o) ⟨putO o.dst v st'.s,st'.h⟩ B)=B st':=by
    intro J h;obtain⟨v,st1,Z,h2⟩:=zcA h;obtain⟨y,I,H⟩:=yB Z;exact⟨y,I,fun T' B=>by rw[h2,H]⟩
   split at h
   ·rename_i hg;obtain⟨y,I,H⟩:=U h;exact⟨y,I,fun T' B=>H T' B⟩
   ·rename_i g O hg;split at h
    ·rename_i t ht;split at h
     ·rename_i b hb1 hb2;cases b<;>cases O<;>simp only[cond_true,cond_false]at h⊢
      ·obtain⟨y,I,H⟩:=U h;exact⟨y,I,fun T' B=>H T' B⟩
      ·obtain⟨y,I,H⟩:=yB h;exact⟨y,I,fun T' B=>H T' B⟩
      ·obtain⟨y,I,H⟩:=yB h;exact⟨y,I,fun T' B=>H T' B⟩
      ·obtain⟨y,I,H⟩:=U h;exact⟨y,I,fun T' B=>H T' B⟩
     ·obtain⟨y,I,H⟩:=yB h;exact⟨y,I,fun T' B=>H T' B⟩
     ·cases h
    ·cases h
theorem zjj{ops:List Oper}{st:St}{k:St->Option T}(h:Q4 E ops st k=some r):∃st',k st'=some r/\∀(T':Type)(j:St->Option T'),Q4 E ops st j=j st':=yB h
theorem zfz{all:List Oper}{base:Nat}:∀{fl:List (Oper×Nat)}{st:St}{k:St->Option T},zjl E all base fl st k=some r->
  ∃st',k st'=some r/\∀(T':Type)(B:St->Option T'),zjl E all base fl st B=B st'
 |[],st,_,h=>⟨st,h,fun _ _=>rfl⟩
 |(o,j)::fl,st,k,h=>by
  simp only[zjl]at h⊢;split at h
  ·obtain⟨v,U,J,O⟩:=zcA h;obtain⟨y,I,H⟩:=zfz J;exact⟨y,I,fun T' B=>by rw[O];exact H T' B⟩
  ·obtain⟨y,I,H⟩:=zfz h;exact⟨y,I,fun T' B=>H T' B⟩
  ·cases h
theorem zlq{all:List Oper}{base:Nat}{st:St}:∀{fl:List (Oper×Nat)}{k:Option T},zce E all base fl st k=some r->k=some r/\∀(T':Type)(y:Option T'),zce E all base fl st y=y
 |[],_,h=>⟨h,fun _ _=>rfl⟩
 |(o,j)::fl,k,h=>by
  simp only[zce]at h⊢;split at h
  ·cases h
  ·have I:∀{v:AV},cond (zbR o.dst v st) (zce E all base fl st k) none=some r->k=some r/\∀(T':Type)(y:Option T'),cond (zbR o.dst v st) (zce E all base fl st y) none=y:=by
    intro v h;cases hd:zbR o.dst v st with
    |false=>rw[hd]at h;cases h
    |true=>rw[hd,cond_true]at h;obtain⟨B,H⟩:=zlq h;exact⟨B,fun T' y=>by rw[cond_true];exact H T' y⟩
   split at h
   ·obtain⟨v,U,B,H⟩:=zcA h;obtain⟨O,J⟩:=I B;exact⟨O,fun T' y=>by rw[H];exact J T' y⟩
   ·exact I h
   ·cases h
theorem zuz{all:List Oper}{base:Nat}{o:Oper}{i:Nat}{st:St}{k:St->Option T}(h:zjo E all base o i st k=some r):∃st',k st'=some r/\∀(T':Type)(j:St->Option T'),zjo E all base o i st j=j st':=by
 unfold zjo at h⊢;split at h
 ·obtain⟨v,y,H,B⟩:=zcA h;exact⟨_,H,fun T' j=>B T' _⟩
 ·exact⟨_,h,fun _ _=>rfl⟩
 ·cases h
theorem zek{all:List Oper}{base:Nat}{B:List (List Nat)}{fs I:List (Oper×Nat)}{H:Option Nat}{st:St}{k:St->Option T}(h:Kr E all base B fs I H st k=some r):
  ∃st',k st'=some r/\∀(T':Type)(y:St->Option T'),Kr E all base B fs I H st y=y st':=by
 unfold Kr at h⊢;obtain⟨j,J,U⟩:=zfz h;obtain⟨Z,O⟩:=zlq J;exact⟨j,Z,fun T' y=>by rw[U];exact O T' _⟩
theorem zpl{all:List Oper}{base:Nat}{B:List (List Nat)}{fs:List (Oper×Nat)}:∀{I:List (Oper×Nat)}{H:Option Nat}{st:St}{k:St->Option T},evG E all base B fs I H st k=some r->
  ∃st',k st'=some r/\∀(T':Type)(j:St->Option T'),evG E all base B fs I H st j=j st'
 |[],_,_,_,h=>zek h
 |(o,i)::I,H,st,k,h=>by simp only[evG]at h⊢;obtain⟨st1,U,h2⟩:=zek h;obtain⟨Z,h3,h4⟩:=zuz U;obtain⟨y,J,O⟩:=zpl h3;exact⟨y,J,fun T' j=>by rw[h2,h4];exact O T' j⟩
theorem Zf{ops:List Oper}{st:St}{k:St->Option T}(h:j9 E ops st k=some r):∃st',k st'=some r/\∀(T':Type)(j:St->Option T'),j9 E ops st j=j st':=by
 unfold j9 at h⊢;simp only[]at h⊢;split at h
 ·exact zpl h
 ·cases h
theorem zni{ops:List Oper}{st:St}{k:St->Option T}(h:JM E ops st (j9 E ops st k) k=some r):∃st',k st'=some r/\∀(T':Type)(j:St->Option T'),JM E ops st (j9 E ops st j) j=j st':=by
 unfold JM at h⊢;split at h
 ·rename_i Z;obtain⟨I,y,J⟩:=yB h;split at y
  ·rename_i B;exact⟨I,y,fun T' j=>by rw[J];simp only[B]⟩
  ·rename_i B;obtain⟨H,U,O⟩:=Zf y;exact⟨H,U,fun T' j=>by rw[J];simp only[B];exact O T' j⟩
 ·exact Zf h
theorem zlj{ops:List Oper}{st:St}{k:St->Option T}(h:JM E ops st none k=some r):∃st',k st'=some r/\∀(T':Type)(B:St->Option T'),JM E ops st none B=B st':=by
 unfold JM at h⊢;split at h
 ·obtain⟨y,j,I⟩:=yB h;split at j
  ·rename_i H;exact⟨y,j,fun T' B=>by rw[I];simp only[H]⟩
  ·cases j
 ·cases h
theorem Q6{m:Nat}{ops:List Oper}{st:St}{k:St->Option T}(h:qS E m ops st (j9 E ops st k) k=some r):∃st',k st'=some r/\∀(T':Type)(j:St->Option T'),qS E m ops st (j9 E ops st j) j=j st':=by
 unfold qS at h⊢;split at h
 ·rename_i h0;obtain⟨Z,H,U⟩:=yB h;split at H
  ·rename_i J;obtain⟨B,I,y⟩:=yB H;exact⟨B,I,fun T' j=>by rw[U];simp only[J];exact y T' j⟩
  ·rename_i J;obtain⟨O,I,y⟩:=Zf H;exact⟨O,I,fun T' j=>by rw[U];simp only[J];exact y T' j⟩
 ·exact Zf h
theorem zlh{ops:List Oper}{st:St}{k:St->Option T}(h:Jx E ops st k=some r):∃st',k st'=some r/\∀(T':Type)(j:St->Option T'),Jx E ops st j=j st':=by
 unfold Jx at h⊢;split at h
 ·exact Q6 h
 ·split at h
  ·exact Q6 h
  ·split at h
   ·exact Q6 h
   ·split at h
    ·split at h
     ·exact Zf h
     ·exact zlj h
    ·exact zni h
theorem zad{ops:List Oper}{st:St}{k:St->Option T}(h:Jd E ops st k=some r):∃st',k st'=some r/\∀(T':Type)(j:St->Option T'),Jd E ops st j=j st':=by
 unfold Jd at h⊢;split at h
 ·rename_i s y;exact⟨s,h,fun _ _=>rfl⟩
 ·split at h
  ·rename_i s y;exact⟨s,h,fun _ _=>rfl⟩
  ·cases h
theorem zjm{ops:List Oper}{st:St}{k:St->Option T}(h:Yh E ops st k=some r):∃st',k st'=some r/\∀(T':Type)(j:St->Option T'),Yh E ops st j=j st':=by
 unfold Yh at h⊢;split at h
 ·exact zad h
 ·split at h
  ·exact zlh h
  ·exact zad h
inductive Lv where
 |normal
 |exit (i:Nat)
 |ret
def Cont.at{R:Type}(K:Cont R):Lv->St->Option R
 |.normal=>K.normal
 |.exit i=>K.exits i
 |.ret=>K.ret
theorem zyG{m q:Nat}:∀(O:Code){T:Type}{r:T}{st:St}{K:Cont T},evR E m q O st K=some r->
  ∃e st',K.at e st'=some r/\∀(T':Type)(K':Cont T'),evR E m q O st K'=K'.at e st':=by
 intro O;induction O with
 |skip=>intro T r st K h;exact⟨.normal,st,h,fun _ _=>rfl⟩
 |label l=>intro T r st K h;exact⟨.normal,st,h,fun _ _=>rfl⟩
 |ret=>intro T r st K h;exact⟨.ret,st,h,fun _ _=>rfl⟩
 |exit i=>intro T r st K h;exact⟨.exit i,st,h,fun _ _=>rfl⟩
 |region id ops draw=>
  intro T r st K h;simp only[evR]at h⊢;cases draw with
  |false=>obtain⟨B,H,I⟩:=zjj h;exact⟨.normal,B,H,fun T' K'=>I T' K'.normal⟩
  |true=>obtain⟨B,H,I⟩:=zjm h;exact⟨.normal,B,H,fun T' K'=>I T' K'.normal⟩
 |scope body ih=>intro T r st K h;simp only[evR]at h⊢;exact ih h
 |goto l=>intro T r st K h;simp only[evR]at h;cases h
 |refuse why=>intro T r st K h;simp only[evR]at h;cases h
 |rangeFunc f ps asg body ih1 ih2=>intro T r st K h;simp only[evR]at h;cases h
 |seq x y Z ihy=>
  intro T r st K h;simp only[evR]at h⊢;obtain⟨e,B,H,I⟩:=Z h;cases e with
  |normal=>obtain⟨e,st2,h3,h4⟩:=ihy H;exact⟨e,st2,h3,fun T' K'=>by rw[I];exact h4 T' K'⟩
  |exit i=>exact⟨.exit i,B,H,fun T' K'=>by rw[I];rfl⟩
  |ret=>exact⟨.ret,B,H,fun T' K'=>by rw[I];rfl⟩
 |cond b x y Z ihy=>
  intro T r st K h;simp only[evR]at h⊢;split at h
  ·rename_i t ht;cases t with
   |true=>exact Z h
   |false=>exact ihy h
  ·cases h
 |block i x ih=>
  intro T r st K h;simp only[evR]at h⊢;obtain⟨e,B,H,I⟩:=ih h;cases e with
  |normal=>exact⟨.normal,B,H,fun T' K'=>by rw[I];rfl⟩
  |ret=>exact⟨.ret,B,H,fun T' K'=>by rw[I];rfl⟩
  |exit j=>
   have H:(yz i K).exits j B=some r:=H;simp only[yz]at H;cases hb:Nat.beq j i with
   |true=>rw[hb]at H;exact⟨.normal,B,H,fun T' K'=>by rw[I];show(yz i K').exits j B=_;simp only[yz,hb];rfl⟩
   |false=>rw[hb]at H;exact⟨.exit j,B,H,fun T' K'=>by rw[I];show(yz i K').exits j B=_;simp only[yz,hb];rfl⟩
 |loop x ih=>
  intro T r st K h;simp only[evR]at h⊢;have key:∀n{st:St},yE (fun J st'=>evR E m q x st' ⟨fun U=>match X9 m U with
   |some s=>J s
   |none=>none,K.exits,K.ret⟩) n st=some r->∃e st',K.at e st'=some r/\∀(T':Type)(K':Cont T'),yE (fun J st'=>evR E m q x st' ⟨fun U=>match X9 m U with
   |some s=>J s
   |none=>none,K'.exits,K'.ret⟩) n st=K'.at e st':=by
   intro n;induction n with
   |zero=>intro st h;cases h
   |succ n ihn=>
    intro st h;obtain⟨e,B,H,I⟩:=ih h;cases e with
    |normal=>
     have H:(match X9 m B with
      |some s=>yE _ n s
      |none=>none)=some r:=H
     split at H
     ·rename_i s hs;obtain⟨e,st2,h3,h4⟩:=ihn H;refine⟨e,st2,h3,fun T' K'=>?_⟩;rw[<-h4 T' K'];refine(I T' _).trans ?_;show(match X9 m B with
       |some s=>yE _ n s
       |none=>none)=_
      rw[hs]
     ·cases H
    |exit i=>exact⟨.exit i,B,H,fun T' K'=>I T' _⟩
    |ret=>exact⟨.ret,B,H,fun T' K'=>I T' _⟩
  exact key q h
end
structure RunT where
 D:FuncId->List AV->Heap->Option Out
 G:(T:Type)->FuncId->List AV->Heap->(Out->Option T)->Option T
 ok:∀(T:Type)(f:FuncId)(a:List AV)(h:Heap)(k:Out->Option T)(r:T),G T f a h k=some r->∃o,D f a h=some o/\k o=some r/\∀(T':Type)(k':Out->Option T'),G T' f a h k'=k' o
def inC(F:RunT)(g:FuncId):Con:=⟨g,List AV×Heap,Out,fun a h=>some (a,h),fun x=>F.D g x.1 x.2,fun _ o=>o,fun T x k=>F.G T g x.1 x.2 k,fun T x k r h=>F.ok T g x.1 x.2 k r h⟩
def RunT.nil:RunT:=⟨fun _ _ _=>none,fun _ _ _ _ _=>none,fun _ _ _ _ _ _ h=>by cases h⟩
noncomputable def zbr(P:Program)(gl:Glob)(Γ:List Con)(fs:List FuncId)(q:Nat)(F:RunT)(T:Type)(f:FuncId)(j:List AV)(h:Heap)(k:Out->Option T):Option T:=match P.funcs[f]? with
 |some fn=>match fn.body,ZD P f&&Nat.ble j.length fn.ntmps with
  |some y,true=>evR ⟨P,gl,Γ++fs.map (inC F),1,fn.ntmps,[],fun _ h=>by cases h⟩ h.length q y ⟨zbj 0 j,h⟩
   ⟨fun st=>bnd (X3 P h.length fn.results.toList st) k,fun _ _=>none,fun st=>bnd (X3 P h.length fn.results.toList st) k⟩
  |_,_=>none
 |none=>none
theorem zq5{P:Program}{gl:Glob}{Γ:List Con}{fs:List FuncId}{q:Nat}{F:RunT}{T:Type}{f:FuncId}{a:List AV}{h:Heap}{k:Out->Option T}{r:T}(e:zbr P gl Γ fs q F T f a h k=some r):
  ∃o,zbr P gl Γ fs q F Out f a h some=some o/\k o=some r/\∀(T':Type)(y:Out->Option T'),zbr P gl Γ fs q F T' f a h y=y o:=by
 unfold zbr at e⊢;split at e
 ·rename_i fn hf;split at e
  ·rename_i j hb U;obtain⟨lv,I,H,J⟩:=zyG j e;have key:∀{x:Option Out},x=X3 P h.length fn.results.toList I->bnd x k=some r->(∀(T':Type)(y:Out->Option T'),(evR ⟨P,gl,Γ++fs.map (inC F),1,fn.ntmps,[],fun _ h=>by cases h⟩ h.length q j ⟨zbj 0 a,h⟩
     ⟨fun st=>bnd (X3 P h.length fn.results.toList st) y,fun _ _=>none,fun st=>bnd (X3 P h.length fn.results.toList st) y⟩)=bnd x y)->∃o,(evR ⟨P,gl,Γ++fs.map (inC F),1,fn.ntmps,[],fun _ h=>by cases h⟩ h.length q j ⟨zbj 0 a,h⟩
     ⟨fun st=>bnd (X3 P h.length fn.results.toList st) some,fun _ _=>none,fun st=>bnd (X3 P h.length fn.results.toList st) some⟩)=some o/\k o=some r/\∀(T':Type)(y:Out->Option T'),(evR ⟨P,gl,Γ++fs.map (inC F),1,fn.ntmps,[],fun _ h=>by cases h⟩ h.length q j ⟨zbj 0 a,h⟩
     ⟨fun st=>bnd (X3 P h.length fn.results.toList st) y,fun _ _=>none,fun st=>bnd (X3 P h.length fn.results.toList st) y⟩)=y o:=by
    intro x _ Z B;obtain⟨o,rfl,O⟩:=Yk Z;exact⟨o,B _ _,O,fun T' y=>B _ _⟩
   cases lv with
   |normal=>exact key rfl H fun T' y=>J T' _
   |ret=>exact key rfl H fun T' y=>J T' _
   |exit i=>cases H
  ·cases e
 ·cases e
noncomputable def zA4(P:Program)(gl:Glob)(Γ:List Con)(fs:List FuncId)(q:Nat)(F:RunT):RunT:=⟨fun f a h=>zbr P gl Γ fs q F Out f a h some,zbr P gl Γ fs q F,fun _ _ _ _ _ _ h=>zq5 h⟩
noncomputable def zwN(P:Program)(gl:Glob)(Γ:List Con)(fs:List FuncId)(q:Nat):Nat->RunT
 |0=>RunT.nil
 |n+1=>zA4 P gl Γ fs q (zwN P gl Γ fs q n)
theorem zgW{P:Program}{GP:Ro->Prop}{gl:Glob}(b:Bas P GP gl){Γ:List Con}(hΓ:∀C∈Γ,SoundC P GP C)(fs:List FuncId)(q:Nat):∀n g,SoundC P GP (inC (zwN P gl Γ fs q n) g)
 |0,g=>fun _ _ _ _ _ U=>by cases U
 |n+1,g=>by
  intro j h x r hd U;have hx:(j,h)=x:=Option.some.inj hd;subst hx;have y:zbr P gl Γ fs q (zwN P gl Γ fs q n) Out g j h some=some r:=U;unfold zbr at y;split at y
  ·rename_i fn hf;split at y
   ·rename_i H J hen;obtain⟨h1,h2⟩:=Bool.and_eq_true_iff.1 hen;refine⟨jk h1,fun R G w vs O W B=>?_⟩;have hlen:vs.length=j.length:=B.length.symm;have hkn':=mI h2;refine calls_of_wp hf J ?_;let c:Base:=⟨R,look G h,fpsAll G h,w,h.length⟩
    let a0:Act:={tmps:=vs.toArray++Array.replicate (fn.ntmps-vs.toArray.size) undef,defers:=[]}
    have F0:Fit c fn.ntmps R G ⟨zbj 0 j,h⟩ a0 w:=by
     refine⟨W,⟨Keeps.refl _ _,fun _ _ h=>h,fun b h=>.inl h,fun i r b hi hr J=>.inl (zO.2 ⟨i,r,hi,hr,J⟩),fun _ _ _=>rfl,mA _⟩,zaj B fun p v hp=>?_,rfl,?_⟩
     ·have hlt:=(kX.1 hp).1;rw[uAr];show(vs.toArray++Array.replicate (fn.ntmps-vs.toArray.size) undef).getD p undef=v;have h4:=(kX.1 hp).2;simp[Array.getElem?_append,hlt];exact h4
     ·show(vs.toArray++Array.replicate (fn.ntmps-vs.toArray.size) undef).size=fn.ntmps;simp;omega
    have ret:∀st R' G'(a:Act) w',bnd (X3 P c.m fn.results.toList st) some=some r->Fit c fn.ntmps R' G' st a w'->GP R'->a.defers=[]/\∃v,(results fn a.tmps).run P w'=.ok v w'/\
      (∃V R' G',Ending.returned v=.returned V/\WRel R' G' r.h w'/\Since c R' G' r.h w'/\Rel (look G' r.h) R' r.v V):=by
     intro st R' G' a w' h F _;obtain⟨o,e1,e2⟩:=Yk h;cases e2;obtain⟨V,G2,g1,g2,g3,g4⟩:=zjd F e1;exact⟨F.defers,V,g1,V,R',G2,rfl,g2,g3,g4⟩
    refine zuw (E:=⟨P,gl,Γ++fs.map (inC (zwN P gl Γ fs q n)),1,fn.ntmps,[],fun _ h=>by cases h⟩) (c:=c) b.hmx (fun C I=>?_) b.hgl b.hst H
     ⟨fun st=>bnd (X3 P c.m fn.results.toList st) some,fun _ _=>none,fun st=>bnd (X3 P c.m fn.results.toList st) some⟩ _ _ R G a0 w
     ⟨fun st R' G' a w' h F Z=>ret st R' G' a w' h F Z,(fun i st R' G' a w' h _ _=>by cases h),fun st R' G' a w' h F Z=>ret st R' G' a w' h F Z⟩ y F0 O
    rcases mQ.1 I with I|I
    ·exact hΓ C I
    ·obtain⟨p,_,rfl⟩:=nZ.1 I;exact zgW b hΓ fs q n p
   ·cases y
  ·cases y
noncomputable def kin{P:Program}{GP:Ro->Prop}{gl:Glob}(b:Bas P GP gl)(Γ:List (Kn P GP))(fs:List FuncId)(q n:Nat)(g:FuncId):Kn P GP:=kn (zgW b (zm3 Γ) fs q n g)
noncomputable def zBL{P:Program}{GP:Ro->Prop}{gl:Glob}(b:Bas P GP gl)(Γ:List (Kn P GP))(fs:List FuncId)(q n:Nat):List (Kn P GP):=Γ++fs.map (kin b Γ fs q n)
end Go.Am
end
section
namespace Go.Am
open Go Go.RowKit Go.Vc
structure RunRow where
 g:FuncId
 Γ:List Con
 fs:List FuncId
 qs:List FuncId
def RunRow.good(r:RunRow):Bool:=r.qs.all fun f=>!memN f r.fs&&r.Γ.all fun C=>!Nat.beq C.f f
def RunRow.of(g:FuncId):List RunRow->RunRow
 |[]=>⟨0,[],[],[]⟩
 |r::l=>cond (Nat.beq r.g g) r (RunRow.of g l)
theorem RunRow.of_good(g:FuncId):∀{l:List RunRow},l.all RunRow.good=true->(RunRow.of g l).good=true
 |[],_=>rfl
 |r::l,h=>by
  rw[List.all_cons,kY]at h;unfold RunRow.of;cases Nat.beq r.g g with
  |true=>exact h.1
  |false=>exact RunRow.of_good g h.2
theorem RunRow.of_all(g:FuncId){p:RunRow->Bool}(j:p ⟨0,[],[],[]⟩=true):∀{l:List RunRow},l.all p=true->p (RunRow.of g l)=true
 |[],_=>j
 |r::l,h=>by
  rw[List.all_cons,kY]at h;unfold RunRow.of;cases Nat.beq r.g g with
  |true=>exact h.1
  |false=>exact RunRow.of_all g j h.2
structure Mm where
 g:FuncId
 args:List AV
 h:Heap
 o:Out
def Mm.con(m:Mm):Con:=Con6.c ⟨m.g,Unit,Unit,fun a hh=>cond (qA a m.args&&ZY hh m.h) (some ()) none,fun _=>some (),fun _ _=>m.o⟩
theorem Mm.quiet{m:Mm}(h:ZY m.o.h m.h=true):QuietC m.con:=fun j hh x r y _=>by
 have y:cond (qA j m.args&&ZY hh m.h) (some ()) none=some x:=y;cases hb:qA j m.args&&ZY hh m.h with
 |false=>rw[hb]at y;cases y
 |true=>rw[kY]at hb;show m.o.h=hh;rw[ZX _ _ hb.2,ZX _ _ h]
def RunRow.quietAll(j:List FuncId)(r:RunRow):Bool:=r.qs.all fun f=>memN f j
def Mm.good(j:List FuncId)(m:Mm):Bool:=!memN m.g j||ZY m.o.h m.h
def RunRow.runW(l:List RunRow)(B:List FuncId)(U:FuncId->Bool)(q:Nat)(h:l.all RunRow.good=true)(h1:l.all (RunRow.quietAll B)=true)(J:List Mm)(h2:J.all (Mm.good B)=true):RunW:=
 ⟨fun g=>J.map Mm.con++(RunRow.of g l).Γ,fun g=>(RunRow.of g l).fs,fun g=>(RunRow.of g l).qs,U,q,fun g f I=>by
 have:=mK.1 (RunRow.of_good g h) f (zA.1 I);rw[kY]at this;obtain⟨O,k2⟩:=this;refine⟨fun H=>?_,fun C j e=>?_⟩
 ·rw[zA.2 H]at O;cases O
 ·rcases mQ.1 j with j|j
  ·obtain⟨m,H,rfl⟩:=nZ.1 j;have y:=mK.1 h2 m H;have Z:=mK.1 (RunRow.of_all (p:=RunRow.quietAll B) g rfl h1) f (zA.1 I);have e:m.g=f:=e;unfold Mm.good at y;rw[e,Z]at y;exact Mm.quiet y
  ·have:=mK.1 k2 C j;rw[e,Nat.beq_refl]at this;cases this⟩
theorem RunRow.sound{P:Program}{GP:Ro->Prop}{l:List RunRow}(h:∀r∈l,∀C∈r.Γ,SoundC P GP C)(g:FuncId):∀C∈(RunRow.of g l).Γ,SoundC P GP C:=by
 induction l with
 |nil=>intro C j;cases j
 |cons r l B=>
  unfold RunRow.of;cases Nat.beq r.g g with
  |true=>exact h r mV
  |false=>exact B fun r y=>h r (mU _ y)
theorem Mm.sound{P:Program}{GP:Ro->Prop}{gl:Glob}(b:Bas P GP gl){l:List RunRow}{H:List FuncId}{O:FuncId->Bool}{q:Nat}{h:l.all RunRow.good=true}{U:l.all (RunRow.quietAll H)=true}{B:List Mm}{Z:B.all (Mm.good H)=true}
  (hl:∀r∈l,∀C∈r.Γ,SoundC P GP C) (hm:∀m∈B,SoundC P GP (Mm.con m)) (m:Mm) (n:Nat) (hr:zb0 P gl (RunRow.runW l H O q h U B Z) n m.g m.args m.h=some m.o):SoundC P GP m.con:=by
 have key:=ZZ b (RunRow.runW l H O q h U B Z) (fun g C y=>by
  rcases mQ.1 y with y|y
  ·obtain⟨m,J,rfl⟩:=nZ.1 y;exact hm m J
  ·exact RunRow.sound hl g C y) n m.g
 intro j hh x r I hs;have I:cond (qA j m.args&&ZY hh m.h) (some ()) none=some x:=I;cases hb:qA j m.args&&ZY hh m.h with
 |false=>rw[hb]at I;cases I
 |true=>rw[kY]at hb;have e1:=yo _ _ hb.1;have e2:=ZX _ _ hb.2;subst e1 e2;exact key m.args m.h (m.args,m.h) m.o rfl hr
structure RowN where
 g:FuncId
 i:List Nat
 fs:List FuncId
 qs:List FuncId
def zkA(l:List Con):List Nat->List Con
 |[]=>[]
 |i::r=>match l[i]? with
  |some c=>c::zkA l r
  |none=>zkA l r
theorem zaJ{l:List Con}:∀{i:List Nat}{C:Con},C∈zkA l i->C∈l
 |[],_,h=>by cases h
 |i::r,C,h=>by
  unfold zkA at h;split at h
  ·rename_i c hc;rcases mS.1 h with h|h
   ·rw[h];exact nK hc
   ·exact zaJ h
  ·exact zaJ h
def RowN.rows(l:List Con)(r:List RowN):List RunRow:=r.map fun r=>⟨r.g,zkA l r.i,r.fs,r.qs⟩
theorem RowN.sound{P:Program}{GP:Ro->Prop}{l:List Con}{r:List RowN}(h:∀C∈l,SoundC P GP C):∀x∈RowN.rows l r,∀C∈x.Γ,SoundC P GP C:=fun x B C j=>by obtain⟨y,_,rfl⟩:=nZ.1 B;exact h C (zaJ j)
end Go.Am
end
section
namespace Go.Am
open Go Go.RowKit Go.Vc
def rowNums(l:uAS):List Int:=l.map fun c=>(c.toNat:Int)
theorem yY(l:uAS):(rowNums l).length=l.length:=by simp[rowNums]
theorem ye(l:uAS):Lib.bytesOf (rowNums l)=l:=by unfold Lib.bytesOf rowNums;rw[List.map_map];exact (uAk fun c _=>by simp).trans (List.map_id l)
theorem X7(l:uAS):∀x∈rowNums l,0<=x/\x<256:=by intro x j;obtain⟨c,_,rfl⟩:=nZ.1 j;have:=c.toNat_lt;omega
theorem K5{w:World}{b off:Nat}{cs:Array Value}{T:TypeId}{fr:Nat×Nat}{l:uAS}{tl:List Value}(I:w.heap[b]? =some (.cells cs T fr))(y:cs.toList.drop off=l.map u8V++tl)(i:Nat)(j:i<l.length):
  w.cell? ⟨b,off+i,none⟩=some (.int .u8 ((rowNums l).getD i 0)):=by
 have B:cs[off+i]? =some (u8V l[i]):=by have:=congrArg (·[i]?) y;simp only[mY]at this;rw[mN (by simpa using j),mX,kZ j]at this;simpa using this
 have H:(rowNums l).getD i 0=(l[i].toNat:Int):=by rw[mG];unfold rowNums;rw[mX,kZ j];rfl
 rw[H];simp[World.cell?,I,B,u8V]
theorem ZF{R:Ro}{G:List Res}{h:Heap}{w:World}(W:WRel R G h w){v:AV}{V:Value}{l:uAS}(j:yk h v=some l)(hv:Rel (look G h) R v V):
  ∃p cap,V=.slice p l.length cap/\l.length<=cap/\Lib.BytesIn w p l.length (rowNums l):=by
 have live:∀{i:Nat}{o:AO},hget h i=some o->∃r,G[i]? =some r/\look G h i=some ⟨r.b,r.virt,r.cap,lenO o⟩/\ObjRel (look G h) R r o w:=fun{i o} ho=>by obtain⟨r,hr⟩:=W.res ⟨o,ho⟩;exact⟨r,hr,zG ho hr,W.obj i o r ho hr⟩
 unfold yk at j;split at j
 ·cases j;rcases hv with⟨hn,ad,cap,rfl,_⟩|⟨b,off,cap,cs,T,fr,seg,tl,rfl,_,hcap,hR,hd,hC⟩
  ·have hl:l=[]:=mW.1 hn;subst hl;exact⟨ad,cap,rfl,nL _,Lib.BytesIn.nil _ _ _⟩
  ·have hC:seg=l.map u8V:=hC;subst hC;exact⟨some ⟨b,off,none⟩,cap,rfl,hcap,fun _=>⟨b,off,rfl,fun i Z=>K5 (W.ro _ _ hR) hd i Z⟩⟩
 ·cases j;exact⟨none,0,hv,mA _,Lib.BytesIn.nil _ _ _⟩
 ·split at j
  ·rename_i i T l' ho;cases j;obtain⟨r,e1,e2,O⟩:=live ho;obtain⟨f,I,h2,h3⟩:=hv;rw[e2]at I;cases I;simp only[ObjRel]at O;rcases O with⟨H,g2,g3,g4⟩|⟨H,g2,g3,cs,tl,fr,g4,g5,g6,g7⟩
   ·obtain⟨_,J⟩:=h2 H;have hl:l=[]:=mW.1 g2;subst hl;exact⟨none,0,J,mA _,Lib.BytesIn.nil _ _ _⟩
   ·have J:=h3 H;subst g5;exact⟨some ⟨r.b,0,none⟩,r.cap,J,g3,fun _=>⟨r.b,0,rfl,fun i Z=>K5 (tl:=tl) g4 (by rw[uAe]) i Z⟩⟩
  ·cases j
 ·split at j
  ·rename_i i T l' ho;cases j;obtain⟨r,e1,e2,O⟩:=live ho;obtain⟨f,I,h2,_,J⟩:=hv;rw[e2]at I;cases I;simp only[ObjRel]at O;rcases O with⟨H,_⟩|⟨H,g2,g3,cs,tl,fr,g4,g5,g6,g7⟩
   ·rw[H]at h2;cases h2
   ·subst g5;exact⟨some ⟨r.b,0,none⟩,r.cap,J,g3,fun _=>⟨r.b,0,rfl,fun i Z=>K5 (tl:=tl) g4 (by rw[uAe]) i Z⟩⟩
  ·cases j
 ·rename_i i B U;split at j
  ·rename_i T l' ho;cases j;obtain⟨r,e1,e2,O⟩:=live ho;obtain⟨f,I,p1,p2,p3,aa,cap,J,p4,p5⟩:=hv;rw[e2]at I;cases I;have p3:B+U<=(l'.length:Int):=p3;have y:(Vc.sub l' B (B+U)).length=U.toNat:=by unfold Vc.sub;rw[mL,mH];omega
   by_cases h0:0<U
   ·obtain⟨q1,rfl⟩:=p5 h0;simp only[ObjRel]at O;rcases O with⟨H,_⟩|⟨H,g2,g3,cs,tl,fr,g4,g5,g6,g7⟩
    ·rw[H]at q1;cases q1
    ·subst g5;refine⟨some ⟨r.b,B.toNat*1,none⟩,cap,by rw[y];exact J,by rw[y];exact p4,fun _=>⟨r.b,B.toNat*1,rfl,fun i Z=>?_⟩⟩;refine K5 (tl:=(l'.drop (B+U).toNat).map u8V++tl) g4 ?_ i Z;rw[nC,List.toList_toArray,nI (by rw[mE];omega),<-uAf,za8 l' (a:=B.toNat) (b:=(B+U).toNat) (by omega) (by omega),mZ,mB];rfl
   ·have hz:U=0:=by omega
    subst hz;have hnil:Vc.sub l' B (B+0)=[]:=mW.1 y;rw[hnil];exact⟨aa,cap,J,nL _,Lib.BytesIn.nil _ _ _⟩
  ·cases j
 ·cases j
def zAg{X B:Type}(f:FuncId)(d:List AV->Heap->Option X)(s:X->Option B)(e:B->AV):Con:=
 Con6.c ⟨f,Heap×X,B,fun a h=>match d a h with
  |some x=>some (h,x)
  |none=>none,fun x=>s x.2,fun x r=>⟨e r,x.1⟩⟩
theorem zeD{P:Program}{GP:Ro->Prop}{X B:Type}{f:FuncId}{d:List AV->Heap->Option X}{s:X->Option B}{e:B->AV}(he:ZD P f=true)(vB:B->Value)(hv:∀r L R,Rel L R (e r) (vB r))
  (h4:∀j h x r R G w vs,d j h=some x->s x=some r->GP R->WRel R G h w->RelL (look G h) R j vs->Calls P f vs.toArray w fun e' w'=>e'=.returned (vB r)/\Keeps [] w w'):SoundC P GP (zAg f d s e):=by
 intro j h y r J hs;have J:(match d j h with
  |some x=>some (h,x)
  |none=>none)=some y:=J
 split at J
 ·rename_i x hx;cases J;refine⟨jk he,fun R G w vs U W I=>?_⟩;refine(h4 j h x r R G w vs hx hs U W I).mono fun e' w' ⟨Z,k⟩=>?_
  have kb:∀b,b<w.heap.size->w'.heap[b]? =w.heap[b]? :=fun b H=>k.block b H (by simp)
  refine⟨vB r,R,G,Z,⟨W.len,fun i o q ho O=>(W.obj i o q ho O).stable (fun b H=>kb b ((W.obj i o q ho O).lt b H)) (fun _ _ h=>h) (fun _ _ _ h=>h),W.sep,W.sepR,fun b o H=>?_⟩,
   ⟨k.mono (by simp),fun _ _ h=>h,fun b h=>.inl h,fun i q b hl O H=>.inl (zO.2 ⟨i,q,hl,O,H⟩),fun i _ _=>rfl,mA _⟩,hv r _ _⟩
  rw[kb b (zV (W.ro b o H))];exact W.ro b o H
 ·cases J
def d2R(j:List AV)(h:Heap):Option (uAS×uAS):=match j with
 |[a,b]=>match yk h (un a),yk h (un b)with
  |some x,some y=>some (x,y)
  |_,_=>none
 |_=>none
def d1R(j:List AV)(h:Heap):Option (uAS×Int):=match j with
 |[a,.int .u8 n]=>match yk h (un a)with
  |some x=>some (x,n)
  |none=>none
 |_=>none
theorem zAF{j:List AV}{h:Heap}{x:uAS×uAS}(e:d2R j h=some x){R:Ro}{G:List Res}{w:World}{vs:List Value}(W:WRel R G h w)(hr:RelL (look G h) R j vs):
  ∃B H I c2,vs=[.slice B x.1.length H,.slice I x.2.length c2]/\x.1.length<=H/\x.2.length<=c2/\Lib.BytesIn w B x.1.length (rowNums x.1)/\Lib.BytesIn w I x.2.length (rowNums x.2):=by
 unfold d2R at e;split at e
 ·split at e
  ·rename_i a b y z Z h2;cases e;obtain⟨u,us,rfl,r1,u',U,rfl,O,rfl⟩:=hr;obtain⟨B,H,rfl,g1,g2⟩:=ZF W Z (yG r1);obtain⟨I,c2,rfl,g3,J⟩:=ZF W h2 (yG O);exact⟨B,H,I,c2,rfl,g1,g3,g2,J⟩
  ·cases e
 ·cases e
theorem zAI{j:List AV}{h:Heap}{x:uAS×Int}(e:d1R j h=some x){R:Ro}{G:List Res}{w:World}{vs:List Value}(W:WRel R G h w)(U:RelL (look G h) R j vs):
  ∃B H,vs=[.slice B x.1.length H,.int .u8 x.2]/\x.1.length<=H/\Lib.BytesIn w B x.1.length (rowNums x.1):=by
 unfold d1R at e;split at e
 ·split at e
  ·rename_i a n _ y O;cases e;obtain⟨u,us,rfl,r1,u',J,rfl,I,rfl⟩:=U;obtain⟨B,H,rfl,Z,g2⟩:=ZF W O (yG r1);have I:u'=.int .u8 n:=I;subst I;exact⟨B,H,rfl,Z,g2⟩
  ·cases e
 ·cases e
end Go.Am
end
section
namespace Go.Am
open Go Go.RowKit Go.Vc
def zp0{X:Type}(f:FuncId)(d:List AV->Heap->Option X)(s:X->Option AO)(e:Nat->AV):Con:=
 Con6.c ⟨f,Heap×X,AO,fun a h=>match d a h with
  |some x=>some (h,x)
  |none=>none,fun x=>s x.2,fun x ao=>⟨e x.1.length,x.1++[some ao]⟩⟩
theorem Yx{P:Program}{GP:Ro->Prop}{X:Type}{f:FuncId}{d:List AV->Heap->Option X}{s:X->Option AO}{e:Nat->AV}(he:Proofs.Enters P f)
  (h4:∀j h x ao R G w vs,d j h=some x->s x=some ao->GP R->WRel R G h w->RelL (look G h) R j vs->Calls P f vs.toArray w fun e' w'=>∃V r,e'=.returned V/\Keeps [] w w'/\(∀b∈r.fp,w.heap.size<=b)/\
   (∀L',ObjRel L' R r ao w')/\∀L',L' h.length=some ⟨r.b,r.virt,r.cap,lenO ao⟩->Rel L' R (e h.length) V):SoundC P GP (zp0 f d s e):=by
 intro j h y ao O hs;have O:(match d j h with
  |some x=>some (h,x)
  |none=>none)=some y:=O
 split at O
 ·rename_i x hx;cases O;refine⟨he,fun R G w vs U W H=>?_⟩;refine(h4 j h x ao R G w vs hx hs U W H).mono fun e' w' ⟨V,r,he',hk,hfp,ho,hv⟩=>?_
  let c:Base:=⟨R,look G h,fpsAll G h,w,h.length⟩
  have F:Fit c 0 R G ⟨[],h⟩ {tmps:= #[],defers:=[]} w:=by refine⟨W,⟨Keeps.refl _ _,fun _ _ h=>h,fun b h=>.inl h,fun i r b hi hr hb=>.inl (zO.2 ⟨i,r,hi,hr,hb⟩),fun _ _ _=>rfl,mA _⟩,fun t=>?_,rfl,rfl⟩;exact trivial
  obtain⟨G1,F1,B,I⟩:=F.wide 1;have Z:h.length<(wide h 1).length:=by rw[I];exact uAx _
  obtain⟨F2,hl,_⟩:=F1.fresh (i:=h.length) (ao:=ao) (r:=r) Z (mA _) (B _ (mA _)) hk hfp fun L' _=>ho L'
  have J:(wide h 1).set h.length (some (show AO from ao))=h++[some (show AO from ao)]:=by rw[zhr];simp
  rw[J]at F2 hl;exact⟨V,R,G1.set h.length r,he',F2.wrel,F2.since,hv _ hl⟩
 ·cases O
def zpi:AV->Bool
 |.int _ _=>true
 |.bool _=>true
 |.str _=>true
 |_=>false
theorem zqL{L L':Lk}{R R':Ro}{v:AV}{V:Value}(h:zpi v=true)(j:Rel L R v V):Rel L' R' v V:=by cases v<;>first|exact j|cases h
theorem K2{L L':Lk}{R R':Ro}:∀{l:List AV}{vs:List Value},l.all zpi=true->RelL L R l vs->RelL L' R' l vs
 |[],_,_,h=>h
 |v::r,vs,h,⟨u,us,h1,h2,h3⟩=>by rw[List.all_cons,kY]at h;exact⟨u,us,h1,zqL h.1 h2,K2 h.2 h3⟩
theorem zp4{P:Program}{GP:Ro->Prop}{F:FuncId->List AV->Heap->Option Out}{g:FuncId}{l:List (AV×AV)}(hF:SoundC P GP (zz3 F g))(hp:((l.map (·.1)).all zpi&&(l.map (·.2)).all zpi)=true)
  (h:F g [] []=some ⟨.map 0,[some (.mp l)]⟩):SoundC P GP (zp0 g (fun a _=>match a with
   |[]=>some ()
   |_=>none) (fun _=>some (.mp l)) .map):=by
 obtain⟨hE,hC⟩:=hF [] [] ([],[]) ⟨.map 0,[some (.mp l)]⟩ rfl h;rw[kY]at hp;refine Yx hE fun Z hh x ao R G w vs hd hs B W hr=>?_
 cases hs;have O:vs=[]:=by
  split at hd
  ·exact hr
  ·cases hd
 subst O;have W0:WRel R [] [] w:=⟨rfl,fun i o r ho _=>(by simp[hget]at ho),fun i j ri rj _ J=>(by obtain⟨o,ho⟩:=J;simp[hget]at ho),fun i r J=>(by obtain⟨o,ho⟩:=J;simp[hget]at ho),W.ro⟩
 refine(hC R [] w [] B W0 rfl).mono fun e' w' ⟨V,R',G',he,W',S',I⟩=>?_
 have W':WRel R' G' [some (.mp l)] w':=W';have S':Since ⟨R,look [] [],fpsAll [] [],w,0⟩ R' G' [some (.mp l)] w':=S';have I:Rel (look G' [some (.mp l)]) R' (.map 0) V:=I;have U:fpsAll [] []=[]:=rfl;have y:hget [some (AO.mp l)] 0=some (.mp l):=rfl;obtain⟨r,H⟩:=W'.res ⟨_,y⟩;obtain⟨g1,g2,g3,g4,es,ck,g5,g6,g7⟩:=W'.obj 0 _ r y H;obtain⟨f,f1,f2,f3⟩:=I;rw[zG y H]at f1;cases f1;refine⟨V,r,he,by have:=S'.keeps;rwa [U]at this,fun b hb=>?_,fun L'=>⟨g1,g2,g3,g4,es,ck,g5,K2 hp.1 g6,K2 hp.2 g7⟩,fun L' hL=>⟨_,hL,f2,f3⟩⟩;rcases S'.own 0 r b ⟨_,y⟩ H hb with h|h
 ·rw[show(Base.mk R (look [] []) (fpsAll [] []) w 0).X=[]from U]at h;cases h
 ·exact h
end Go.Am
end
