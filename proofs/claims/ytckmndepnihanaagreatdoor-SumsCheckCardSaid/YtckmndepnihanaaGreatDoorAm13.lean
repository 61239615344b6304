/-
  A part of the proof of the laws.
-/
import Derived.Test.YtckmndepnihanaaGreatDoorAm25
import Derived.Test.YtckmndepnihanaaGreatDoorAm29
namespace Go.Am
open Go Go.RowKit Go.Vc
structure KOk{T:Type}(c:Base)(n:Nat)(GP:Ro→Prop)(r:T)(K:Cont T)(Q:Exit→Act→World→Prop):Prop where
 normal:∀st R G a w,K.normal st=some r→Fit c n R G st a w→GP R→Q .normal a w
 exits:∀i st R G a w,K.exits i st=some r→Fit c n R G st a w→GP R→Q (.exit i) a w
 ret:∀st R G a w,K.ret st=some r→Fit c n R G st a w→GP R→Q .ret a w
theorem yX{i j:Nat}:Nat.beq i j=true↔i=j:=⟨Nat.eq_of_beq_eq_true,fun h=>by subst h;simp⟩
section
variable {E : Env} {GP : Ro → Prop} {T : Type} {r : T} {c : Base} {cs : List (Cut T)}
theorem zxR(hmx:E.P.follows .mixedOrders=true)(hΓ:∀C∈E.Γ,SoundC E.P GP C)(hgl:∀R,GP R→GlobOK E.gl R)(hst:Stays GP)(Z:∀j fl vs h,ZI fl vs h 0 cs j=none):
  ∀(code:Code)(fl:List Nat)(an:An)(K:Cont T)(Q:Exit→Act→World→Prop)(st:St)(R:Ro)(G:List Res)(a:Act)(w:World),
   KOk c E.n GP r K Q→(∀j fs n vs h y,y∈jp E cs c.m j n vs h fs fl code an K→∀x,ZI (fs.reverse++fl) vs h (n+1) cs j=some x→y=some x)→
   ev E cs c.m fl code an st K=some r→Fit c E.n R G st a w→GP R→code.wp E.P Q a w:=by
 intro code;induction code with
 |skip=>intro fl an K Q st R G a w hK _ h F hGP;exact wp_skip (hK.normal st R G a w h F hGP)
 |label l=>intro fl an K Q st R G a w hK _ h F hGP;exact wp_label (hK.normal st R G a w h F hGP)
 |ret=>intro fl an K Q st R G a w hK _ h F hGP;exact wp_ret (hK.ret st R G a w h F hGP)
 |exit i=>intro fl an K Q st R G a w hK _ h F hGP;exact wp_exit (hK.exits i st R G a w h F hGP)
 |region id ops draw=>
  intro fl an K Q st R G a w hK _ h F hGP;simp only[ev]at h;split at h
  ·have:=zht hΓ hgl hst F hGP h (Q:=Q) (fun st' R' G' a' w' h1 h2 h3=>hK.normal st' R' G' a' w' h1 h2 h3) (id:=id);simpa using this
  ·have:=XN hmx hΓ hgl hst F hGP h (Q:=Q) (fun st' R' G' a' w' h1 h2 h3=>hK.normal st' R' G' a' w' h1 h2 h3) (id:=id);simpa using this
 |scope body ih=>intro fl an K Q st R G a w hK _ h F hGP;simp only[ev]at h;cases h
 |goto l=>intro fl an K Q st R G a w hK _ h F hGP;simp only[ev]at h;cases h
 |refuse why=>intro fl an K Q st R G a w hK _ h F hGP;simp only[ev]at h;cases h
 |rangeFunc f ps asg body ih1 ih2=>intro fl an K Q st R G a w hK _ h F hGP;simp only[ev]at h;cases h
 |seq x y ihx ihy=>
  intro fl an K Q st R G a w hK H h F hGP;refine wp_seq ?_;have plain:∀(al ar:An),(∀j fs n vs h y',y'∈jp E cs c.m j n vs h fs fl x al ⟨fun st'=>ev E cs c.m fl y ar st' K,K.exits,K.ret⟩++jp E cs c.m j n vs h fs fl y ar K→∀x',ZI (fs.reverse++fl) vs h (n+1) cs j=some x'→y'=some x')→
    ev E cs c.m fl x al st ⟨fun st'=>ev E cs c.m fl y ar st' K,K.exits,K.ret⟩=some r→x.wp E.P (Exit.then (y.wp E.P Q) Q) a w:=by
   intro al ar H' h';refine ihx fl al ⟨fun st'=>ev E cs c.m fl y ar st' K,K.exits,K.ret⟩ _ st R G a w ⟨fun st' R' G' a' w' h1 h2 h3=>?_,hK.exits,hK.ret⟩ (fun j fs n vs h y' hy=>H' j fs n vs h y' (List.mem_append_left _ hy)) h' F hGP;exact ihy fl ar K Q st' R' G' a' w' hK (fun j fs n vs h y' hy=>H' j fs n vs h y' (List.mem_append_right _ hy)) h1 h2 h3
  cases an with
  |cut j lv la lb=>
   simp only[ev]at h;simp only[jp]at H;refine ihx fl la ⟨zeo cs c.m j lv fl 1,K.exits,K.ret⟩ _ st R G a w ⟨fun st' R' G' a' w' h1 h2 h3=>?_,hK.exits,hK.ret⟩
    (fun j' fs n vs h y' hy=>H j' fs n vs h y' (List.mem_append_right _ (List.mem_append_left _ hy))) h F hGP
   simp only[zeo]at h1;split at h1
   ·rename_i vs hh hn;obtain⟨G2,F2⟩:=zgZ h2 hn;have e:=H j [] 0 vs hh _ (List.mem_append_left _ (by rw[yX.2 rfl];exact List.mem_singleton_self _)) r (by simpa using h1);exact ihy fl lb K Q _ R' G2 a' w' hK (fun j' fs n vs h y' hy=>H j' fs n vs h y' (List.mem_append_right _ (List.mem_append_right _ hy))) e F2 h3
   ·cases h1
  |nil=>exact plain _ _ (by simpa only[jp]using H) (by simpa only[ev]using h)
  |seq p q=>exact plain _ _ (by simpa only[jp]using H) (by simpa only[ev]using h)
  |one p=>exact plain _ _ (by simpa only[jp]using H) (by simpa only[ev]using h)
  |two p q=>exact plain _ _ (by simpa only[jp]using H) (by simpa only[ev]using h)
  |loop j lv p=>exact plain _ _ (by simpa only[jp]using H) (by simpa only[ev]using h)
 |cond b x y ihx ihy=>
  intro fl an K Q st R G a w hK H h F hGP;simp only[ev]at h;simp only[jp]at H;split at h
  ·rename_i t ht;have hb:=YV (hgl R hGP) F.slots b;rw[ht]at hb;simp only[Rel]at hb;refine wp_cond hb ?_;cases t
   ·exact ihy fl _ K Q st R G a w hK (fun j fs n vs h y' hy=>H j fs n vs h y' (List.mem_append_right _ hy)) h F hGP
   ·exact ihx fl _ K Q st R G a w hK (fun j fs n vs h y' hy=>H j fs n vs h y' (List.mem_append_left _ hy)) h F hGP
  ·cases h
 |block i x ih=>
  intro fl an K Q st R G a w hK H h F hGP;simp only[ev]at h;simp only[jp]at H;refine wp_block (ih fl _ (J9 i K) _ st R G a w ⟨hK.normal,fun j st' R' G' a' w' h1 h2 h3=>?_,hK.ret⟩ H h F hGP);simp only[J9]at h1;show(if j=i then Q .normal a' w' else Q (.exit j) a' w');split at h1
  ·rename_i hb;rw[if_pos (yX.1 hb)];exact hK.normal st' R' G' a' w' h1 h2 h3
  ·rename_i hb;rw[if_neg (fun e=>by rw[yX.2 e]at hb;cases hb)];exact hK.exits j st' R' G' a' w' h1 h2 h3
 |loop x ih=>
  intro fl an K Q st R G a w hK H h F hGP;have plain:qX (fun again st'=>ev E cs c.m fl x .nil st' ⟨again,K.exits,K.ret⟩) 64 st=some r→(Code.loop x).wp E.P Q a w:=by
   intro h;have nocut:∀(code:Code)(K:Cont T)(j n:Nat)(vs:List AV)(h:Heap)(fs fl:List Nat),jp E cs c.m j n vs h fs fl code .nil K=[]:=by
    intro code;induction code with
    |seq x y ihx ihy=>intro K j n vs h fs fl;simp only[jp,An.l,An.r,ihx,ihy,List.append_nil]
    |cond b x y ihx ihy=>intro K j n vs h fs fl;simp only[jp,An.l,An.r,ihx,ihy,List.append_nil]
    |block i x ih=>intro K j n vs h fs fl;simp only[jp,An.l,ih]
    |loop x ih=>intro K j n vs h fs fl;simp only[jp]
    |_=>intro K j n vs h fs fl;simp only[jp]
   refine YB (ι:=Nat) id (fun n a w=>∃st R G,qX (fun again st'=>ev E cs c.m fl x .nil st' ⟨again,K.exits,K.ret⟩) n st=some r∧Fit c E.n R G st a w∧GP R) ?_ 64 ⟨st,R,G,h,F,hGP⟩;intro n a w ⟨st,R,G,h,F,hGP⟩;cases n with
   |zero=>cases h
   |succ n=>have h':ev E cs c.m fl x .nil st ⟨qX (fun again st'=>ev E cs c.m fl x .nil st' ⟨again,K.exits,K.ret⟩) n,K.exits,K.ret⟩=some r:=h;refine ih fl .nil ⟨qX (fun again st'=>ev E cs c.m fl x .nil st' ⟨again,K.exits,K.ret⟩) n,K.exits,K.ret⟩ _ st R G a w ⟨fun st' R' G' a' w' h1 h2 h3=>⟨n,Nat.lt_succ_self n,st',R',G',h1,h2,h3⟩,hK.exits,hK.ret⟩ (fun j fs n vs hh y hy=>by rw[nocut]at hy;cases hy) h' F hGP
  cases an with
  |loop j lv la=>
   simp only[ev]at h;simp only[jp]at H;have start:∀{k:Nat}{st:St}{R:Ro}{G:List Res}{a:Act}{w:World},zeo cs c.m j lv fl k st=some r→Fit c E.n R G st a w→GP R→
     ∃vs hh R G,ZI fl vs hh k cs j=some r∧Fit c E.n R G ⟨zfp lv vs,hh⟩ a w∧GP R:=by
    intro k st R G a w h F hGP;simp only[zeo]at h;split at h
    ·rename_i vs hh hn;obtain⟨G2,F2⟩:=zgZ F hn;exact⟨vs,hh,R,G2,h,F2,hGP⟩
    ·cases h
   refine YB (ι:=Nat) id (fun n a w=>∃vs hh R G,ZI fl vs hh n cs j=some r∧Fit c E.n R G ⟨zfp lv vs,hh⟩ a w∧GP R) ?_ E.N (start h F hGP);intro n a w ⟨vs,hh,R,G,h,F,hGP⟩;cases n with
   |zero=>rw[Z]at h;cases h
   |succ n=>have e:=H j [] n vs hh _ (List.mem_append_left _ (by rw[yX.2 rfl];exact List.mem_singleton_self _)) r (by simpa using h);refine ih (n::fl) la ⟨zeo cs c.m j lv fl n,K.exits,K.ret⟩ _ _ R G a w ⟨fun st' R' G' a' w' h1 h2 h3=>⟨n,Nat.lt_succ_self n,start h1 h2 h3⟩,hK.exits,hK.ret⟩ (fun j' fs n' vs' h' y hy x' hx=>?_) e F hGP;refine H j' (n::fs) n' vs' h' y (List.mem_append_right _ hy) x' ?_;simpa using hx
  |nil=>exact plain (by simpa only[ev]using h)
  |seq p q=>exact plain (by simpa only[ev]using h)
  |one p=>exact plain (by simpa only[ev]using h)
  |two p q=>exact plain (by simpa only[ev]using h)
  |cut j lv p q=>exact plain (by simpa only[ev]using h)
end
end Go.Am
