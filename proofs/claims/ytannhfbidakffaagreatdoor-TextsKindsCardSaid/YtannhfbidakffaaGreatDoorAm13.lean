/-
  A part of the proof of the laws.
-/
import Derived.Test.YtannhfbidakffaaGreatDoorAm25
import Derived.Test.YtannhfbidakffaaGreatDoorAm29
namespace Go.Am
open Go Go.RowKit Go.Vc
structure KOk{T:Type}(c:Base)(n:Nat)(GP:Ro->Prop)(r:T)(K:Cont T)(Q:Exit->Act->World->Prop):Prop where
 normal:∀st R G a w,K.normal st=some r->Fit c n R G st a w->GP R->Q .normal a w
 exits:∀i st R G a w,K.exits i st=some r->Fit c n R G st a w->GP R->Q (.exit i) a w
 ret:∀st R G a w,K.ret st=some r->Fit c n R G st a w->GP R->Q .ret a w
theorem qT{i j:Nat}:Nat.beq i j=true↔i=j:=⟨mE,fun h=>by subst h;simp⟩
section
variable {E : Env} {GP : Ro -> Prop} {T : Type} {r : T} {c : Base} {cs : List (Cut T)}
theorem zER(hmx:E.P.follows .mixedOrders=true)(hΓ:∀C∈E.Γ,SoundC E.P GP C)(hgl:∀R,GP R->GlobOK E.gl R)(hst:Stays GP)(Z:∀j fl vs h,YS fl vs h 0 cs j=none):
  ∀(S:Code)(fl:List Nat)(an:An)(K:Cont T)(Q:Exit->Act->World->Prop)(st:St)(R:Ro)(G:List Res)(a:Act)(w:World),
   KOk c E.n GP r K Q->(∀j fs n vs h y,y∈jH E cs c.m j n vs h fs fl S an K->∀x,YS (fs.reverse++fl) vs h (n+1) cs j=some x->y=some x)->
   ev E cs c.m fl S an st K=some r->Fit c E.n R G st a w->GP R->S.wp E.P Q a w:=by
 intro S;induction S with
 |skip=>intro fl an K Q st R G a w J _ h F B;exact wp_skip (J.normal st R G a w h F B)
 |label l=>intro fl an K Q st R G a w J _ h F B;exact wp_label (J.normal st R G a w h F B)
 |ret=>intro fl an K Q st R G a w J _ h F B;exact wp_ret (J.ret st R G a w h F B)
 |exit i=>intro fl an K Q st R G a w J _ h F B;exact wp_exit (J.exits i st R G a w h F B)
 |region id ops draw=>
  intro fl an K Q st R G a w J _ h F B;simp only[ev]at h;split at h
  ·have:=zmL hΓ hgl hst F B h (Q:=Q) (fun st' R' G' a' w' U h2 h3=>J.normal st' R' G' a' w' U h2 h3) (id:=id);simpa using this
  ·have:=zbx hmx hΓ hgl hst F B h (Q:=Q) (fun st' R' G' a' w' U h2 h3=>J.normal st' R' G' a' w' U h2 h3) (id:=id);simpa using this
 |scope body ih=>intro fl an K Q st R G a w J _ h F B;simp only[ev]at h;cases h
 |goto l=>intro fl an K Q st R G a w J _ h F B;simp only[ev]at h;cases h
 |refuse why=>intro fl an K Q st R G a w J _ h F B;simp only[ev]at h;cases h
 |rangeFunc f ps asg body ih1 ih2=>intro fl an K Q st R G a w J _ h F B;simp only[ev]at h;cases h
 |seq x y ihx Y=>
  intro fl an K Q st R G a w J H h F B;refine wp_seq ?_;have I:∀(al ar:An),(∀j fs n vs h y',y'∈jH E cs c.m j n vs h fs fl x al ⟨fun st'=>ev E cs c.m fl y ar st' K,K.exits,K.ret⟩++jH E cs c.m j n vs h fs fl y ar K->∀x',YS (fs.reverse++fl) vs h (n+1) cs j=some x'->y'=some x')->
    ev E cs c.m fl x al st ⟨fun st'=>ev E cs c.m fl y ar st' K,K.exits,K.ret⟩=some r->x.wp E.P (Exit.then (y.wp E.P Q) Q) a w:=by
   intro al ar H' h';refine ihx fl al ⟨fun st'=>ev E cs c.m fl y ar st' K,K.exits,K.ret⟩ _ st R G a w ⟨fun st' R' G' a' w' U h2 h3=>?_,J.exits,J.ret⟩ (fun j fs n vs h y' hy=>H' j fs n vs h y' (uAc _ hy)) h' F B;exact Y fl ar K Q st' R' G' a' w' J (fun j fs n vs h y' hy=>H' j fs n vs h y' (uAJ _ hy)) U h2 h3
  cases an with
  |cut j lv la lb=>
   simp only[ev]at h;simp only[jH]at H;refine ihx fl la ⟨cutK cs c.m j lv fl 1,K.exits,K.ret⟩ _ st R G a w ⟨fun st' R' G' a' w' U h2 h3=>?_,J.exits,J.ret⟩
    (fun j' fs n vs h y' hy=>H j' fs n vs h y' (uAJ _ (uAc _ hy))) h F B
   simp only[cutK]at U;split at U
   ·rename_i vs hh hn;obtain⟨G2,F2⟩:=zl1 h2 hn;have e:=H j [] 0 vs hh _ (uAc _ (by rw[qT.2 rfl];exact List.mem_singleton_self _)) r (by simpa using U);exact Y fl lb K Q _ R' G2 a' w' J (fun j' fs n vs h y' hy=>H j' fs n vs h y' (uAJ _ (uAJ _ hy))) e F2 h3
   ·cases U
  |nil=>exact I _ _ (by simpa only[jH]using H) (by simpa only[ev]using h)
  |seq p q=>exact I _ _ (by simpa only[jH]using H) (by simpa only[ev]using h)
  |one p=>exact I _ _ (by simpa only[jH]using H) (by simpa only[ev]using h)
  |two p q=>exact I _ _ (by simpa only[jH]using H) (by simpa only[ev]using h)
  |loop j lv p=>exact I _ _ (by simpa only[jH]using H) (by simpa only[ev]using h)
 |cond b x y ihx Y=>
  intro fl an K Q st R G a w J H h F B;simp only[ev]at h;simp only[jH]at H;split at h
  ·rename_i t ht;have hb:=Vn (hgl R B) F.slots b;rw[ht]at hb;simp only[Rel]at hb;refine wp_cond hb ?_;cases t
   ·exact Y fl _ K Q st R G a w J (fun j fs n vs h y' hy=>H j fs n vs h y' (uAJ _ hy)) h F B
   ·exact ihx fl _ K Q st R G a w J (fun j fs n vs h y' hy=>H j fs n vs h y' (uAc _ hy)) h F B
  ·cases h
 |block i x ih=>
  intro fl an K Q st R G a w J H h F B;simp only[ev]at h;simp only[jH]at H;refine wp_block (ih fl _ (qe i K) _ st R G a w ⟨J.normal,fun j st' R' G' a' w' U h2 h3=>?_,J.ret⟩ H h F B);simp only[qe]at U;show(if j=i then Q .normal a' w' else Q (.exit j) a' w');split at U
  ·rename_i hb;rw[if_pos (qT.1 hb)];exact J.normal st' R' G' a' w' U h2 h3
  ·rename_i hb;rw[if_neg (fun e=>by rw[qT.2 e]at hb;cases hb)];exact J.exits j st' R' G' a' w' U h2 h3
 |loop x ih=>
  intro fl an K Q st R G a w J H h F B;have I:qj (fun O st'=>ev E cs c.m fl x .nil st' ⟨O,K.exits,K.ret⟩) 64 st=some r->(Code.loop x).wp E.P Q a w:=by
   intro h;have nocut:∀(S:Code)(K:Cont T)(j n:Nat)(vs:List AV)(h:Heap)(fs fl:List Nat),jH E cs c.m j n vs h fs fl S .nil K=[]:=by
    intro S;induction S with
    |seq x y ihx Y=>intro K j n vs h fs fl;simp only[jH,An.l,An.r,ihx,Y,nM]
    |cond b x y ihx Y=>intro K j n vs h fs fl;simp only[jH,An.l,An.r,ihx,Y,nM]
    |block i x ih=>intro K j n vs h fs fl;simp only[jH,An.l,ih]
    |loop x ih=>intro K j n vs h fs fl;simp only[jH]
    |_=>intro K j n vs h fs fl;simp only[jH]
   refine KZ (ι:=Nat) id (fun n a w=>∃st R G,qj (fun O st'=>ev E cs c.m fl x .nil st' ⟨O,K.exits,K.ret⟩) n st=some r/\Fit c E.n R G st a w/\GP R) ?_ 64 ⟨st,R,G,h,F,B⟩;intro n a w ⟨st,R,G,h,F,B⟩;cases n with
   |zero=>cases h
   |succ n=>have h':ev E cs c.m fl x .nil st ⟨qj (fun O st'=>ev E cs c.m fl x .nil st' ⟨O,K.exits,K.ret⟩) n,K.exits,K.ret⟩=some r:=h;refine ih fl .nil ⟨qj (fun O st'=>ev E cs c.m fl x .nil st' ⟨O,K.exits,K.ret⟩) n,K.exits,K.ret⟩ _ st R G a w ⟨fun st' R' G' a' w' U h2 h3=>⟨n,uAt n,st',R',G',U,h2,h3⟩,J.exits,J.ret⟩ (fun j fs n vs hh y hy=>by rw[nocut]at hy;cases hy) h' F B
  cases an with
  |loop j lv la=>
   simp only[ev]at h;simp only[jH]at H;have start:∀{k:Nat}{st:St}{R:Ro}{G:List Res}{a:Act}{w:World},cutK cs c.m j lv fl k st=some r->Fit c E.n R G st a w->GP R->
     ∃vs hh R G,YS fl vs hh k cs j=some r/\Fit c E.n R G ⟨zkT lv vs,hh⟩ a w/\GP R:=by
    intro k st R G a w h F B;simp only[cutK]at h;split at h
    ·rename_i vs hh hn;obtain⟨G2,F2⟩:=zl1 F hn;exact⟨vs,hh,R,G2,h,F2,B⟩
    ·cases h
   refine KZ (ι:=Nat) id (fun n a w=>∃vs hh R G,YS fl vs hh n cs j=some r/\Fit c E.n R G ⟨zkT lv vs,hh⟩ a w/\GP R) ?_ E.N (start h F B);intro n a w ⟨vs,hh,R,G,h,F,B⟩;cases n with
   |zero=>rw[Z]at h;cases h
   |succ n=>have e:=H j [] n vs hh _ (uAc _ (by rw[qT.2 rfl];exact List.mem_singleton_self _)) r (by simpa using h);refine ih (n::fl) la ⟨cutK cs c.m j lv fl n,K.exits,K.ret⟩ _ _ R G a w ⟨fun st' R' G' a' w' U h2 h3=>⟨n,uAt n,start U h2 h3⟩,J.exits,J.ret⟩ (fun j' fs n' vs' h' y hy x' hx=>?_) e F B;refine H j' (n::fs) n' vs' h' y (uAJ _ hy) x' ?_;simpa using hx
  |nil=>exact I (by simpa only[ev]using h)
  |seq p q=>exact I (by simpa only[ev]using h)
  |one p=>exact I (by simpa only[ev]using h)
  |two p q=>exact I (by simpa only[ev]using h)
  |cut j lv p q=>exact I (by simpa only[ev]using h)
end
end Go.Am
