/-
  A part of the proof of the laws.
-/
import Derived.Test.YtodebhabandljaaGreatDoorAm25
import Derived.Test.YtodebhabandljaaGreatDoorAm29
namespace Go.Am
open Go Go.RowKit Go.Vc
structure KOk{T:Type}(c:Base)(n:Nat)(GP:Ro->Prop)(r:T)(K:Cont T)(Q:Exit->Act->World->Prop):Prop where
 normal:∀st R G a w,K.normal st=some r->Fit c n R G st a w->GP R->Q .normal a w
 exits:∀i st R G a w,K.exits i st=some r->Fit c n R G st a w->GP R->Q (.exit i) a w
 ret:∀st R G a w,K.ret st=some r->Fit c n R G st a w->GP R->Q .ret a w
theorem y9{i j:Nat}:Nat.beq i j=true↔i=j:=⟨kV,fun h=>by subst h;simp⟩
section
variable {E : Env} {GP : Ro -> Prop} {T : Type} {r : T} {c : Base} {cs : List (Cut T)}
theorem zBr(hmx:E.P.follows .mixedOrders=true)(hΓ:∀C∈E.Γ,SoundC E.P GP C)(hgl:∀R,GP R->GlobOK E.gl R)(hst:Stays GP)(Z:∀j fl vs h,Jf fl vs h 0 cs j=none):
  ∀(U:Code)(fl:List Nat)(an:An)(K:Cont T)(Q:Exit->Act->World->Prop)(st:St)(R:Ro)(G:List Res)(a:Act)(w:World),
   KOk c E.n GP r K Q->(∀j fs n vs h y,y∈jw E cs c.m j n vs h fs fl U an K->∀x,Jf (fs.reverse++fl) vs h (n+1) cs j=some x->y=some x)->
   ev E cs c.m fl U an st K=some r->Fit c E.n R G st a w->GP R->U.wp E.P Q a w:=by
 intro U;induction U with
 |skip=>intro fl an K Q st R G a w J _ h F B;exact wp_skip (J.normal st R G a w h F B)
 |label l=>intro fl an K Q st R G a w J _ h F B;exact wp_label (J.normal st R G a w h F B)
 |ret=>intro fl an K Q st R G a w J _ h F B;exact wp_ret (J.ret st R G a w h F B)
 |exit i=>intro fl an K Q st R G a w J _ h F B;exact wp_exit (J.exits i st R G a w h F B)
 |region id ops draw=>
  intro fl an K Q st R G a w J _ h F B;simp only[ev]at h;split at h
  ·have:=zjk hΓ hgl hst F B h (Q:=Q) (fun st' R' G' a' w' h1 h2 h3=>J.normal st' R' G' a' w' h1 h2 h3) (id:=id);simpa using this
  ·have:=KO hmx hΓ hgl hst F B h (Q:=Q) (fun st' R' G' a' w' h1 h2 h3=>J.normal st' R' G' a' w' h1 h2 h3) (id:=id);simpa using this
 |scope body ih=>intro fl an K Q st R G a w J _ h F B;simp only[ev]at h;cases h
 |goto l=>intro fl an K Q st R G a w J _ h F B;simp only[ev]at h;cases h
 |refuse why=>intro fl an K Q st R G a w J _ h F B;simp only[ev]at h;cases h
 |rangeFunc f ps asg body ih1 ih2=>intro fl an K Q st R G a w J _ h F B;simp only[ev]at h;cases h
 |seq x y ihx ihy=>
  intro fl an K Q st R G a w J H h F B;refine wp_seq ?_;have I:∀(al ar:An),(∀j fs n vs h y',y'∈jw E cs c.m j n vs h fs fl x al ⟨fun st'=>ev E cs c.m fl y ar st' K,K.exits,K.ret⟩++jw E cs c.m j n vs h fs fl y ar K->∀x',Jf (fs.reverse++fl) vs h (n+1) cs j=some x'->y'=some x')->
    ev E cs c.m fl x al st ⟨fun st'=>ev E cs c.m fl y ar st' K,K.exits,K.ret⟩=some r->x.wp E.P (Exit.then (y.wp E.P Q) Q) a w:=by
   intro al ar H' h';refine ihx fl al ⟨fun st'=>ev E cs c.m fl y ar st' K,K.exits,K.ret⟩ _ st R G a w ⟨fun st' R' G' a' w' h1 h2 h3=>?_,J.exits,J.ret⟩ (fun j fs n vs h y' hy=>H' j fs n vs h y' (nN _ hy)) h' F B;exact ihy fl ar K Q st' R' G' a' w' J (fun j fs n vs h y' hy=>H' j fs n vs h y' (uAj _ hy)) h1 h2 h3
  cases an with
  |cut j lv la lb=>
   simp only[ev]at h;simp only[jw]at H;refine ihx fl la ⟨zge cs c.m j lv fl 1,K.exits,K.ret⟩ _ st R G a w ⟨fun st' R' G' a' w' h1 h2 h3=>?_,J.exits,J.ret⟩
    (fun j' fs n vs h y' hy=>H j' fs n vs h y' (uAj _ (nN _ hy))) h F B
   simp only[zge]at h1;split at h1
   ·rename_i vs hh hn;obtain⟨G2,F2⟩:=ziz h2 hn;have e:=H j [] 0 vs hh _ (nN _ (by rw[y9.2 rfl];exact List.mem_singleton_self _)) r (by simpa using h1);exact ihy fl lb K Q _ R' G2 a' w' J (fun j' fs n vs h y' hy=>H j' fs n vs h y' (uAj _ (uAj _ hy))) e F2 h3
   ·cases h1
  |nil=>exact I _ _ (by simpa only[jw]using H) (by simpa only[ev]using h)
  |seq p q=>exact I _ _ (by simpa only[jw]using H) (by simpa only[ev]using h)
  |one p=>exact I _ _ (by simpa only[jw]using H) (by simpa only[ev]using h)
  |two p q=>exact I _ _ (by simpa only[jw]using H) (by simpa only[ev]using h)
  |loop j lv p=>exact I _ _ (by simpa only[jw]using H) (by simpa only[ev]using h)
 |cond b x y ihx ihy=>
  intro fl an K Q st R G a w J H h F B;simp only[ev]at h;simp only[jw]at H;split at h
  ·rename_i t ht;have hb:=Qy (hgl R B) F.slots b;rw[ht]at hb;simp only[Rel]at hb;refine wp_cond hb ?_;cases t
   ·exact ihy fl _ K Q st R G a w J (fun j fs n vs h y' hy=>H j fs n vs h y' (uAj _ hy)) h F B
   ·exact ihx fl _ K Q st R G a w J (fun j fs n vs h y' hy=>H j fs n vs h y' (nN _ hy)) h F B
  ·cases h
 |block i x ih=>
  intro fl an K Q st R G a w J H h F B;simp only[ev]at h;simp only[jw]at H;refine wp_block (ih fl _ (yz i K) _ st R G a w ⟨J.normal,fun j st' R' G' a' w' h1 h2 h3=>?_,J.ret⟩ H h F B);simp only[yz]at h1;show(if j=i then Q .normal a' w' else Q (.exit j) a' w');split at h1
  ·rename_i hb;rw[if_pos (y9.1 hb)];exact J.normal st' R' G' a' w' h1 h2 h3
  ·rename_i hb;rw[if_neg (fun e=>by rw[y9.2 e]at hb;cases hb)];exact J.exits j st' R' G' a' w' h1 h2 h3
 |loop x ih=>
  intro fl an K Q st R G a w J H h F B;have I:yE (fun O st'=>ev E cs c.m fl x .nil st' ⟨O,K.exits,K.ret⟩) 64 st=some r->(Code.loop x).wp E.P Q a w:=by
   intro h;have nocut:∀(U:Code)(K:Cont T)(j n:Nat)(vs:List AV)(h:Heap)(fs fl:List Nat),jw E cs c.m j n vs h fs fl U .nil K=[]:=by
    intro U;induction U with
    |seq x y ihx ihy=>intro K j n vs h fs fl;simp only[jw,An.l,An.r,ihx,ihy,mM]
    |cond b x y ihx ihy=>intro K j n vs h fs fl;simp only[jw,An.l,An.r,ihx,ihy,mM]
    |block i x ih=>intro K j n vs h fs fl;simp only[jw,An.l,ih]
    |loop x ih=>intro K j n vs h fs fl;simp only[jw]
    |_=>intro K j n vs h fs fl;simp only[jw]
   refine Qc (ι:=Nat) id (fun n a w=>∃st R G,yE (fun O st'=>ev E cs c.m fl x .nil st' ⟨O,K.exits,K.ret⟩) n st=some r/\Fit c E.n R G st a w/\GP R) ?_ 64 ⟨st,R,G,h,F,B⟩;intro n a w ⟨st,R,G,h,F,B⟩;cases n with
   |zero=>cases h
   |succ n=>have h':ev E cs c.m fl x .nil st ⟨yE (fun O st'=>ev E cs c.m fl x .nil st' ⟨O,K.exits,K.ret⟩) n,K.exits,K.ret⟩=some r:=h;refine ih fl .nil ⟨yE (fun O st'=>ev E cs c.m fl x .nil st' ⟨O,K.exits,K.ret⟩) n,K.exits,K.ret⟩ _ st R G a w ⟨fun st' R' G' a' w' h1 h2 h3=>⟨n,uAx n,st',R',G',h1,h2,h3⟩,J.exits,J.ret⟩ (fun j fs n vs hh y hy=>by rw[nocut]at hy;cases hy) h' F B
  cases an with
  |loop j lv la=>
   simp only[ev]at h;simp only[jw]at H;have start:∀{k:Nat}{st:St}{R:Ro}{G:List Res}{a:Act}{w:World},zge cs c.m j lv fl k st=some r->Fit c E.n R G st a w->GP R->
     ∃vs hh R G,Jf fl vs hh k cs j=some r/\Fit c E.n R G ⟨zhp lv vs,hh⟩ a w/\GP R:=by
    intro k st R G a w h F B;simp only[zge]at h;split at h
    ·rename_i vs hh hn;obtain⟨G2,F2⟩:=ziz F hn;exact⟨vs,hh,R,G2,h,F2,B⟩
    ·cases h
   refine Qc (ι:=Nat) id (fun n a w=>∃vs hh R G,Jf fl vs hh n cs j=some r/\Fit c E.n R G ⟨zhp lv vs,hh⟩ a w/\GP R) ?_ E.N (start h F B);intro n a w ⟨vs,hh,R,G,h,F,B⟩;cases n with
   |zero=>rw[Z]at h;cases h
   |succ n=>have e:=H j [] n vs hh _ (nN _ (by rw[y9.2 rfl];exact List.mem_singleton_self _)) r (by simpa using h);refine ih (n::fl) la ⟨zge cs c.m j lv fl n,K.exits,K.ret⟩ _ _ R G a w ⟨fun st' R' G' a' w' h1 h2 h3=>⟨n,uAx n,start h1 h2 h3⟩,J.exits,J.ret⟩ (fun j' fs n' vs' h' y hy x' hx=>?_) e F B;refine H j' (n::fs) n' vs' h' y (uAj _ hy) x' ?_;simpa using hx
  |nil=>exact I (by simpa only[ev]using h)
  |seq p q=>exact I (by simpa only[ev]using h)
  |one p=>exact I (by simpa only[ev]using h)
  |two p q=>exact I (by simpa only[ev]using h)
  |cut j lv p q=>exact I (by simpa only[ev]using h)
end
end Go.Am
