/-
  A part of the proof of the laws.
-/
import Derived.Test.YtpgmpcjbndpblaaGreatDoorAm18
import Derived.Test.YtpgmpcjbndpblaaGreatDoorAm27
import Derived.Test.YtpgmpcjbndpblaaGreatDoorProg
import Derived.Test.YtpgmpcjbndpblaaGreatDoorChecked
import Derived.Test.YtpgmpcjbndpblaaGreatDoorShelf
import Derived.Shelf.Strings.SlTrimAscii
import Derived.Shelf.Strings.Builder1
import Derived.WalkKit
import Derived.Shelf.Strings.Builder2
section
set_option maxHeartbeats 4000000
set_option maxRecDepth 100000
namespace Go.Proofs.C06
open Go Go.RowKit Go.Vc Go.Am
def nG:Nat:=11
structure Gd(w:World):Prop where
 maxLen:∃m,w.cell? ⟨2,0,none⟩=some (.int .i64 m)
 pow:Lib.TabIs Tryz.prog w "internal/strconv.uint64pow10" .u64 Lib.pow10Tab
def gl:Glob:=[(3,.agg [.int .u8 36,.int .u8 43,.int .u8 45])]
def GP(R:Ro):Prop:=(∀w:World,(∀b o,R b=some o->w.heap[b]? =some o)->Gd w)/\GlobOK gl R
theorem gd(R:Ro)(w:World)(h:GP R)(hw:∀b o,R b=some o->w.heap[b]? =some o):Gd w:=h.1 w hw
theorem zu9(R:Ro)(h:GP R):GlobOK gl R:=h.2
theorem zot:Stays GP:=fun R R' hs h=>⟨fun w hw=>h.1 w fun b o hb=>hw b o (hs b o hb),fun g=>zh hs _ _ (fun i hi=>by rw[JQ]at hi;cases hi) (h.2 g)⟩
theorem mixed:Tryz.prog.follows .mixedOrders=true:=Tryz.checked.mixed
theorem bas:Bas Tryz.prog GP gl:=⟨mixed,zu9,zot⟩
def jN(vs:List AV)(h:Heap):Option (uBi×uBi):=match vs,h with
 |[.str q0,.str q1],[]=>some (q0,q1)
 |_,_=>none
theorem yU(vs:List AV)(h:Heap)(x:uBi×uBi)(hx:jN vs h=some x):vs=[.str x.1,.str x.2]/\h=[]:=by unfold jN at hx;split at hx<;>cases hx;exact⟨rfl,rfl⟩
def zfa(_N:Nat):Con:=Con6.c ⟨86,uBi×uBi,Bool,jN,fun x=>W6 x.1 x.2,fun _ r=>⟨.bool r,[]⟩⟩
theorem zcm(N:Nat):SoundC Tryz.prog GP (zfa N):=zQ gd (fun x=>[.str x.1,.str x.2]) (fun x=>[.string (bs x.1),.string (bs x.2)]) (fun r=>.bool r) (by kernel_rfl) yU (fun _=>rfl) (fun _=>rfl) fun x r w hG h=>by cases h;exact (Tryz.strings_HasPrefix (bs x.1) (bs x.2) w).mono fun e w' ⟨h1,h2⟩=>⟨h1,.of_eq h2⟩
def zfe(_N:Nat):Con:=Con6.c ⟨56,uBi×uBi,uBi×Bool,jN,fun x=>Q8 x.1 x.2,fun _ r=>⟨.tup [.str r.1,.bool r.2],[]⟩⟩
theorem Y7(N:Nat):SoundC Tryz.prog GP (zfe N):=zQ gd (fun x=>[.str x.1,.str x.2]) (fun x=>[.string (bs x.1),.string (bs x.2)]) (fun r=>.tuple #[.string (bs r.1),.bool r.2]) (by kernel_rfl) yU (fun _=>rfl) (fun _=>rfl) fun x r w hG h=>by cases h;exact (Tryz.strings_CutPrefix (bs x.1) (bs x.2) w).mono fun e w' ⟨h1,h2⟩=>⟨h1,.of_eq h2⟩
def zfd(_N:Nat):Con:=Con6.c ⟨79,uBi×uBi,uBi×Bool,jN,fun x=>qd x.1 x.2,fun _ r=>⟨.tup [.str r.1,.bool r.2],[]⟩⟩
theorem Y6(N:Nat):SoundC Tryz.prog GP (zfd N):=zQ gd (fun x=>[.str x.1,.str x.2]) (fun x=>[.string (bs x.1),.string (bs x.2)]) (fun r=>.tuple #[.string (bs r.1),.bool r.2]) (by kernel_rfl) yU (fun _=>rfl) (fun _=>rfl) fun x r w hG h=>by obtain⟨hc,h⟩:=zk h;cases h;exact (Tryz.strings_CutSuffix (bs x.1) (bs x.2) w (by rw[jk];exact Z7 hc)).mono fun e w' ⟨h1,h2⟩=>⟨h1,.of_eq h2⟩
def zdG(_N:Nat):Con:=Con6.c ⟨77,uBi×uBi,uBi,jN,fun x=>KA x.1 x.2,fun _ r=>⟨.str r,[]⟩⟩
theorem za9(N:Nat):SoundC Tryz.prog GP (zdG N):=zQ gd (fun x=>[.str x.1,.str x.2]) (fun x=>[.string (bs x.1),.string (bs x.2)]) (fun r=>.string (bs r)) (by kernel_rfl) yU (fun _=>rfl) (fun _=>rfl) fun x r w hG h=>by obtain⟨hc,h⟩:=zk h;cases h;exact (Tryz.strings_TrimSuffix (bs x.1) (bs x.2) w (by rw[jk];exact Z7 hc)).mono fun e w' ⟨h1,h2⟩=>⟨h1,.of_eq h2⟩
def zf4(vs:List AV)(h:Heap):Option (uBi×Int):=match vs,h with
 |[.str q0,.int .u8 q1],[]=>some (q0,q1)
 |_,_=>none
theorem zub(vs:List AV)(h:Heap)(x:uBi×Int)(hx:zf4 vs h=some x):vs=[.str x.1,.int .u8 x.2]/\h=[]:=by unfold zf4 at hx;split at hx<;>cases hx;exact⟨rfl,rfl⟩
def ze8(_N:Nat):Con:=Con6.c ⟨119,uBi×Int,Int,zf4,fun x=>yb x.1 x.2,fun _ r=>⟨.int .i64 r,[]⟩⟩
theorem Zj(N:Nat):SoundC Tryz.prog GP (ze8 N):=zQ gd (fun x=>[.str x.1,.int .u8 x.2]) (fun x=>[.string (bs x.1),.int .u8 x.2]) (fun r=>.int .i64 r) (by kernel_rfl) zub (fun _=>rfl) (fun _=>rfl) fun x r w hG h=>by cases h;exact (Tryz.strings_IndexByte (bs x.1) x.2 w).mono fun e w' ⟨h1,h2⟩=>⟨h1,.of_eq h2⟩
def zrV(_N:Nat):Con:=Con6.c ⟨74,uBi×uBi,uBi×uBi×Bool,jN,fun x=>zu0 x.1 x.2,fun _ r=>⟨.tup [.str r.1,.str r.2.1,.bool r.2.2],[]⟩⟩
theorem zna(N:Nat):SoundC Tryz.prog GP (zrV N):=zQ gd (fun x=>[.str x.1,.str x.2]) (fun x=>[.string (bs x.1),.string (bs x.2)]) (fun r=>.tuple #[.string (bs r.1),.string (bs r.2.1),.bool r.2.2]) (by kernel_rfl) yU (fun _=>rfl) (fun _=>rfl) fun x r w hG h=>by obtain⟨hc,h⟩:=zk h;cases h;obtain⟨m,hm⟩:=hG.maxLen;exact (Tryz.strings_Cut (bs x.1) (bs x.2) m w (by rw[jk];exact Z7 hc) hm).mono fun e w' ⟨h1,n,h2⟩=>⟨h1,h2▸Keeps.drewN _ _⟩
def znb(_N:Nat):Con:=Con6.c ⟨34,uBi×uBi,Int,jN,fun x=>Zk x.1 x.2,fun _ r=>⟨.int .i64 r,[]⟩⟩
theorem qK(N:Nat):SoundC Tryz.prog GP (znb N):=zQ gd (fun x=>[.str x.1,.str x.2]) (fun x=>[.string (bs x.1),.string (bs x.2)]) (fun r=>.int .i64 r) (by kernel_rfl) yU (fun _=>rfl) (fun _=>rfl) fun x r w hG h=>by
 obtain⟨s,p⟩:=x
 match p,h with
 |[c],h=>cases h;exact (Tryz.strings_Count_one (bs s) c w).mono fun e w' ⟨h1,h2⟩=>⟨h1,.of_eq h2⟩
def zgz(_N:Nat):Con:=Con6.c ⟨181,uBi×uBi,Bool,jN,fun x=>Y8 x.1 x.2,fun _ r=>⟨.bool r,[]⟩⟩
theorem XV(N:Nat):SoundC Tryz.prog GP (zgz N):=zQ gd (fun x=>[.str x.1,.str x.2]) (fun x=>[.string (bs x.1),.string (bs x.2)]) (fun r=>.bool r) (by kernel_rfl) yU (fun _=>rfl) (fun _=>rfl) fun x r w hG h=>by
 obtain⟨s,p⟩:=x
 match p,h with
 |[c],h=>cases h;exact (Tryz.strings_Contains_one (bs s) c w).mono fun e w' ⟨h1,h2⟩=>⟨h1,.of_eq h2⟩
def zgw(_N:Nat):Con:=Con6.c ⟨76,uBi×uBi,uBi,jN,fun x=>Ji x.1 x.2,fun _ r=>⟨.str r,[]⟩⟩
theorem XU(N:Nat):SoundC Tryz.prog GP (zgw N):=zQ gd (fun x=>[.str x.1,.str x.2]) (fun x=>[.string (bs x.1),.string (bs x.2)]) (fun r=>.string (bs r)) (by kernel_rfl) yU (fun _=>rfl) (fun _=>rfl) fun x r w hG h=>by obtain⟨hc,h⟩:=zk h;obtain⟨hc,ha⟩:=zar hc;cases h;exact (Any.strings_TrimLeft_laid Tryz.lays161 (by kernel_rfl) (bs x.1) (bs x.2) w (by rw[jk];exact Z7 hc) (K4 ha)).mono fun e w' ⟨h1,h2⟩=>⟨h1,.of_below h2⟩
def ze4(_N:Nat):Con:=Con6.c ⟨78,uBi×uBi,uBi,jN,fun x=>W5 x.1 x.2,fun _ r=>⟨.str r,[]⟩⟩
theorem zci(N:Nat):SoundC Tryz.prog GP (ze4 N):=zQ gd (fun x=>[.str x.1,.str x.2]) (fun x=>[.string (bs x.1),.string (bs x.2)]) (fun r=>.string (bs r)) (by kernel_rfl) yU (fun _=>rfl) (fun _=>rfl) fun x r w hG h=>by obtain⟨hc,h⟩:=zk h;obtain⟨hc,ha⟩:=zar hc;obtain⟨hc2,ha⟩:=zar ha;cases h;exact (Any.strings_TrimRight_laid Tryz.lays162 (by kernel_rfl) (bs x.1) (bs x.2) w (by rw[jk];exact Z7 hc) (by rw[jk];exact Z7 hc2) (K4 ha)).mono fun e w' ⟨h1,h2⟩=>⟨h1,.of_below h2⟩
def zpR(_N:Nat):Con:=Con6.c ⟨44,uBi×uBi,uBi,jN,fun x=>ZI x.1 x.2,fun _ r=>⟨.str r,[]⟩⟩
theorem jI(N:Nat):SoundC Tryz.prog GP (zpR N):=zQ gd (fun x=>[.str x.1,.str x.2]) (fun x=>[.string (bs x.1),.string (bs x.2)]) (fun r=>.string (bs r)) (by kernel_rfl) yU (fun _=>rfl) (fun _=>rfl) fun x r w hG h=>by obtain⟨hc,h⟩:=zk h;obtain⟨hc,ha⟩:=zar hc;obtain⟨hc2,ha⟩:=zar ha;cases h;exact (Any.strings_Trim_laid Tryz.lays160 (by kernel_rfl) (bs x.1) (bs x.2) w (by rw[jk];exact Z7 hc) (by rw[jk];exact Z7 hc2) (K4 ha)).mono fun e w' ⟨h1,h2⟩=>⟨h1,.of_below h2⟩
def ze9(_N:Nat):Con:=Con6.c ⟨138,uBi×uBi,Bool,jN,fun x=>Q7 x.1 x.2,fun _ r=>⟨.bool r,[]⟩⟩
theorem zcl(N:Nat):SoundC Tryz.prog GP (ze9 N):=zQ gd (fun x=>[.str x.1,.str x.2]) (fun x=>[.string (bs x.1),.string (bs x.2)]) (fun r=>.bool r) (by kernel_rfl) yU (fun _=>rfl) (fun _=>rfl) fun x r w hG h=>by obtain⟨hc,h⟩:=zk h;cases h;exact (Tryz.strings_HasSuffix (bs x.1) (bs x.2) w (by rw[jk];exact Z7 hc)).mono fun e w' ⟨h1,h2⟩=>⟨h1,.of_eq h2⟩
def zf5(vs:List AV)(h:Heap):Option (Int×Int):=match vs,h with
 |[.int .i64 q0,.int .i64 q1],[]=>some (q0,q1)
 |_,_=>none
theorem zuc(vs:List AV)(h:Heap)(x:Int×Int)(hx:zf5 vs h=some x):vs=[.int .i64 x.1,.int .i64 x.2]/\h=[]:=by unfold zf5 at hx;split at hx<;>cases hx;exact⟨rfl,rfl⟩
def zfb(_N:Nat):Con:=Con6.c ⟨57,Int×Int,uBi,zf5,fun x=>zfc x.1 x.2,fun _ r=>⟨.str r,[]⟩⟩
theorem zcn(N:Nat):SoundC Tryz.prog GP (zfb N):=zQ gd (fun x=>[.int .i64 x.1,.int .i64 x.2]) (fun x=>[.int .i64 x.1,.int .i64 x.2]) (fun r=>.string (bs r)) (by kernel_rfl) zuc (fun _=>rfl) (fun _=>rfl) fun x r w hG h=>by obtain⟨hc,h⟩:=zk h;obtain⟨h10,hc⟩:=zar hc;obtain⟨h1,h2⟩:=zar hc;cases h;obtain⟨n,b⟩:=x;obtain rfl:b=10:=Z7 h10;exact (Tryz.strconv_FormatInt_10 n (Z7 h1) (Z7 h2) w hG.pow).mono fun e w' ⟨h1,k,os,h2⟩=>⟨h1,h2▸(Keeps.drewN _ _).trans (Keeps.grow _ _)⟩
def zf2(vs:List AV)(h:Heap):Option (uBi×Int):=match vs,h with
 |[.str q0,.int .i32 q1],[]=>some (q0,q1)
 |_,_=>none
theorem zt9(vs:List AV)(h:Heap)(x:uBi×Int)(hx:zf2 vs h=some x):vs=[.str x.1,.int .i32 x.2]/\h=[]:=by unfold zf2 at hx;split at hx<;>cases hx;exact⟨rfl,rfl⟩
def zbe(_N:Nat):Con:=Con6.c ⟨82,uBi×Int,Bool,zf2,fun x=>YF x.1 x.2,fun _ r=>⟨.bool r,[]⟩⟩
theorem Wj(N:Nat):SoundC Tryz.prog GP (zbe N):=zQ gd (fun x=>[.str x.1,.int .i32 x.2]) (fun x=>[.string (bs x.1),.int .i32 x.2]) (fun r=>.bool r) (by kernel_rfl) zt9 (fun _=>rfl) (fun _=>rfl) fun x r w hG h=>by obtain⟨hc,h⟩:=zk h;obtain⟨h1,h2⟩:=zar hc;cases h;exact (Tryz.strings_ContainsRune_ascii (bs x.1) x.2 w (Z7 h1) (Z7 h2)).mono fun e w' ⟨h1,h2⟩=>⟨h1,.of_eq h2⟩
def zco(_N:Nat):Con:=Con6.c ⟨73,uBi×uBi,Bool,jN,fun x=>Z2 x.1 x.2,fun _ r=>⟨.bool r,[]⟩⟩
theorem W7(N:Nat):SoundC Tryz.prog GP (zco N):=zQ gd (fun x=>[.str x.1,.str x.2]) (fun x=>[.string (bs x.1),.string (bs x.2)]) (fun r=>.bool r) (by kernel_rfl) yU (fun _=>rfl) (fun _=>rfl) fun x r w hG h=>by obtain⟨hc,h⟩:=zk h;obtain⟨h1,hc⟩:=zar hc;obtain⟨h2,hc⟩:=zar hc;obtain⟨h3,h4⟩:=zar hc;cases h;exact (Tryz.strings_ContainsAny_laid (bs x.1) (bs x.2) w (by rw[jk];exact Z7 h1) (by rw[jk];exact Z7 h2) (K4 h3) (K4 h4)).mono fun e w' ⟨h1,h2⟩=>⟨h1,.of_below h2⟩
def zjw(vs:List AV)(h:Heap):Option (Int):=match vs,h with
 |[.int .i32 q0],[]=>some q0
 |_,_=>none
theorem zvy(vs:List AV)(h:Heap)(x:Int)(hx:zjw vs h=some x):vs=[.int .i32 x]/\h=[]:=by unfold zjw at hx;split at hx<;>cases hx;exact⟨rfl,rfl⟩
def ziK(_N:Nat):Con:=Con6.c ⟨126,Int,Int,zjw,fun x=>JK x,fun _ r=>⟨.int .i64 r,[]⟩⟩
theorem KB(N:Nat):SoundC Tryz.prog GP (ziK N):=zQ gd (fun x=>[.int .i32 x]) (fun x=>[.int .i32 x]) (fun r=>.int .i64 r) (by kernel_rfl) zvy (fun _=>rfl) (fun _=>rfl) fun x r w hG h=>by cases h;exact (Tryz.utf8_RuneLen x w).mono fun e w' ⟨h1,h2⟩=>⟨h1,.of_eq h2⟩
def zf3(vs:List AV)(h:Heap):Option (uBi×Int):=match vs,h with
 |[.str q0,.int .i64 q1],[]=>some (q0,q1)
 |_,_=>none
theorem zua(vs:List AV)(h:Heap)(x:uBi×Int)(hx:zf3 vs h=some x):vs=[.str x.1,.int .i64 x.2]/\h=[]:=by unfold zf3 at hx;split at hx<;>cases hx;exact⟨rfl,rfl⟩
def zkR(_N:Nat):Con:=Con6.c ⟨41,uBi×Int,uBi,zf3,fun x=>jU x.1 x.2,fun _ r=>⟨.str r,[]⟩⟩
theorem jP(N:Nat):SoundC Tryz.prog GP (zkR N):=zQ gd (fun x=>[.str x.1,.int .i64 x.2]) (fun x=>[.string (bs x.1),.int .i64 x.2]) (fun r=>.string (bs r)) (by kernel_rfl) zua (fun _=>rfl) (fun _=>rfl) fun x r w hG h=>by
 obtain⟨hc,h⟩:=zk h;obtain⟨h1,hc⟩:=zar hc;obtain⟨h2,h3⟩:=zar hc;have h1:=Z7 h1;have h2:=Z7 h2;have h3:=Z7 h3;cases h;obtain⟨s,c⟩:=x;obtain⟨k,rfl⟩:∃k:Nat,c=k:=⟨c.toNat,by simp only at h1;omega⟩
 simp only[mQ]at*
 exact (Tryz.strings_Repeat (bs s) k w (by omega) (by rw[jk];exact h3)).mono fun e w' ⟨h1,h2⟩=>⟨h1,.of_below h2⟩
def zjv(vs:List AV)(h:Heap):Option uBi:=match vs,h with
 |[.str q0],[]=>some q0
 |_,_=>none
theorem zvx(vs:List AV)(h:Heap)(x:uBi)(hx:zjv vs h=some x):vs=[.str x]/\h=[]:=by unfold zjv at hx;split at hx<;>cases hx;exact⟨rfl,rfl⟩
def zpU(_N:Nat):Con:=Con6.c ⟨117,uBi,Int,zjv,fun x=>zoL x,fun _ r=>⟨.tup [.int .i64 r,.nili],[]⟩⟩
theorem zkW(N:Nat):SoundC Tryz.prog GP (zpU N):=zQ gd (fun x=>[.str x]) (fun x=>[.string (bs x)]) (fun r=>.tuple #[.int .i64 r,.nilIface]) (by kernel_rfl) zvx (fun _=>rfl) (fun _=>rfl) fun x r w hG h=>by obtain⟨hc,h⟩:=zk h;exact (Tryz.strconv_Atoi (bs x) r (by rw[jk];exact Z7 hc) h w).mono fun e w' ⟨h1,t,h2⟩=>⟨h1,by subst h2;exact .of_below (Lib.bytesWorld_below _ _ _)⟩
end Go.Proofs.C06
end
section
set_option maxHeartbeats 4000000
set_option maxRecDepth 100000
namespace Go.Proofs.C06
open Go Go.RowKit Go.Vc Go.Am
theorem zt1(b:Nat)(w:World)(h0:w.cell? ⟨b,0,none⟩=some (.pointer (some ⟨b,0,none⟩))):
  Calls Tryz.prog 120 #[.pointer (some ⟨b,0,none⟩)] w fun e w'=>e=.returned (.tuple #[])/\w'=w:=by
 have hsz:∃j,Tryz.prog.info? 109=some j:=⟨_,rfl⟩
 obtain⟨j,hj⟩:=hsz
 go_enter Tryz.func120,Tryz.ntmps120
 go_wp2
 rw[Lib.run_neq_ptr_same w _ (by kernel_rfl) hj]
 go_wp2
 go_end0
 exact⟨rfl,rfl⟩
theorem zsH(b:Nat)(w:World)(h0:w.cell? ⟨b,0,none⟩=some (.pointer none))(hsh:w.shape? b=some (109,2))(hfz:w.frozen? ⟨b,0,none⟩=false):
  Calls Tryz.prog 120 #[.pointer (some ⟨b,0,none⟩)] w fun e w'=>e=.returned (.tuple #[])/\w'=w.setCell ⟨b,0,none⟩ (.pointer (some ⟨b,0,none⟩)):=by
 have hsz:∃j,Tryz.prog.info? 109=some j/\j.size=2:=⟨_,rfl,by kernel_rfl⟩
 obtain⟨j,hj,hjs⟩:=hsz;have t55:Tryz.prog.underlying 107=some (.pointer 109):=by kernel_rfl
 have t109:Tryz.prog.underlying 187=some (.unsafePointer):=by kernel_rfl
 go_enter Tryz.func120,Tryz.ntmps120
 go_wp2
 rw[Lib.run_to_unsafe w ⟨b,0,none⟩ t55 t109 hj (by rw[hjs];decide) hsh (Nat.zero_lt_succ 1)];simp only[Result.andThen];rw[Oper.upon_value]
 go_wp2
 rw[run_callFunc_extern Tryz.func159 (by kernel_rfl) (by kernel_rfl) (by kernel_rfl) (e:=Extern.AbiNoEscape.same) (by kernel_rfl)];rw[Lib.run_noEscape];simp only[Result.andThen];rw[Oper.upon_value]
 go_wp2
 rw[Lib.run_from_unsafe w ⟨b,0,none⟩ t109 t55 hj hsh (by kernel_rfl)];simp only[Result.andThen];rw[Oper.upon_value]
 go_wp2
 go_end0
 exact⟨rfl,rfl⟩
def zak(vs:List AV)(h:Heap):Option (AV×Heap):=match vs,h with
 |[.ptr 0 0],some (.cells 109 [.ptr 0 0,v])::h=>some (v,h)
 |_,_=>none
def K0(vs:List AV)(h:Heap):Option (AV×Heap):=match vs,h with
 |[.ptr 0 0],some (.cells 109 [.nilp,v])::h=>some (v,h)
 |_,_=>none
def znQ(_N:Nat):Con:=Con6.c ⟨120,AV×Heap,Unit,zak,fun _=>some (),fun x _=>⟨.tup [],some (.cells 109 [.ptr 0 0,x.1])::x.2⟩⟩
def zlI(_N:Nat):Con:=Con6.c ⟨120,AV×Heap,Unit,K0,fun _=>some (),fun x _=>⟨.tup [],some (.cells 109 [.ptr 0 0,x.1])::x.2⟩⟩
theorem Z8(N:Nat):SoundC Tryz.prog GP (znQ N):=by
 intro args h x r hd hs;have hd:zak args h=some x:=hd;unfold zak at hd;split at hd
 ·rename_i v hp hq;cases hd;refine⟨jE (by kernel_rfl),fun R G w vs hGP W hargs=>?_⟩;have F:=QD W;obtain⟨r0,hr,hlk,hv0,hfp,cs,hcs,hrel⟩:=F.look_live (i:=0) rfl;obtain⟨u,us,rfl,⟨f,hf,_,rfl⟩,hus⟩:=hargs;have hus:us=[]:=hus;subst hus;rw[hlk]at hf;cases hf;obtain⟨c0,cr,rfl,⟨f,hf,_,rfl⟩,_⟩:=hrel;rw[hlk]at hf;cases hf;refine(zt1 r0.b w (by simp[World.cell?,hcs])).mono fun e w' ⟨he,hw⟩=>?_
  subst hw;exact⟨_,R,G,he,W,F.since,⟨[],rfl,rfl⟩⟩
 ·cases hd
theorem WG(N:Nat):SoundC Tryz.prog GP (zlI N):=by
 intro args h x r hd hs;have hd:K0 args h=some x:=hd;unfold K0 at hd;split at hd
 ·rename_i v hp hq;cases hd;refine⟨jE (by kernel_rfl),fun R G w vs hGP W hargs=>?_⟩;have F:=QD W;obtain⟨r0,hr,hlk,hv0,hfp,cs,hcs,hrel⟩:=F.look_live (i:=0) rfl;obtain⟨u,us,rfl,⟨f,hf,_,rfl⟩,hus⟩:=hargs;have hus:us=[]:=hus;subst hus;rw[hlk]at hf;cases hf;obtain⟨c0,cr,rfl,h0,c1,cr1,rfl,h1,hcr⟩:=hrel;have hcr:cr1=[]:=hcr;subst hcr;have h0:c0=.pointer none:=h0;subst h0;refine(zsH r0.b w (by simp[World.cell?,hcs]) (by simp[World.shape?,hcs]) (by simp[World.frozen?,hcs])).mono fun e w' ⟨he,hw⟩=>?_
  subst hw;obtain⟨s1,s2⟩:=Kg (o:=0) (v:=.pointer (some ⟨r0.b,0,none⟩)) hcs;obtain⟨F',_⟩:=F.write (i:=0) (ao:=.cells 109 [.ptr 0 0,v]) rfl hr rfl hfp s2 (fun L' hL=>⟨hv0,hfp,_,s1,_,_,rfl,⟨_,hL _ _ hlk,hv0,rfl⟩,_,_,rfl,zh (fun _ _ h=>h) _ _ (fun j _ f hf=>hL j f hf) h1,rfl⟩);exact⟨_,R,G,he,F'.wrel,F'.since,⟨[],rfl,rfl⟩⟩
 ·cases hd
end Go.Proofs.C06
end
section
set_option maxHeartbeats 2000000
set_option maxRecDepth 100000
namespace Go.Proofs.C06
open Go Go.RowKit Go.Vc Go.Am
theorem ztb(b g cap:Nat)(p:Value)(cur:Array Value)(fr:Nat×Nat)(l:uBi)(w:World)(hl0:l≠[])(hbk:w.heap[b]? =some (.cells #[p,.slice (some ⟨g,0,none⟩) l.length cap] 109 (0,0)))
  (hg:w.heap[g]? =some (.cells cur 5 fr)) (hn:l.length<=cap) (hcs:l.length<=cur.size) (hsz:l.length<=9223372036854775807) (hcell:∀j x,l[j]? =some x->w.cell? ((⟨g,0,none⟩:Addr).add j)=some (.int .u8 x.toNat)):
  Calls Tryz.prog 71 #[.pointer (some ⟨b,0,none⟩)] w fun e w'=>e=.returned (.string ⟨l.toArray⟩)/\w'=w.drew.freeze ⟨g,0,none⟩ l.length:=by
 have hlen:l.length≠0:=by simpa using hl0
 have mixed:=Tryz.checked.mixed;have c1:w.drew.cell? ⟨b,1,none⟩=some (.slice (some ⟨g,0,none⟩) l.length cap):=by have:w.drew.heap[b]? =some (.cells #[p,.slice (some ⟨g,0,none⟩) l.length cap] 109 (0,0)):=hbk;rw[Lib.cell_of_heap this];rfl
 have hSD:(Builtin.unsafeSliceData_ #[26] 166 #[.slice (some ⟨g,0,none⟩) l.length cap]).run Tryz.prog w.drew=.ok (.pointer (some ⟨g,0,none⟩)) w.drew:=
  Lib.run_unsafeSliceData_row _ _ _ _ _ _ (by omega)
 have hUS:(Builtin.unsafeString_ #[166,3] 9 #[.pointer (some ⟨g,0,none⟩),.int .i64 l.length]).run Tryz.prog w.drew=.ok (.string ⟨l.toArray⟩) (w.drew.freeze ⟨g,0,none⟩ l.length):=by refine Lib.run_unsafeString_row w.drew 166 3 9 5 (by kernel_rfl) (by kernel_rfl) g cur.size (by have hg':w.drew.heap[g]? =some (.cells cur 5 fr):=hg;simp[World.shape?,hg']) l hl0 hcs hsz hcell
 go_enter Tryz.func71,Tryz.ntmps71
 go_wp2
 go_region_o
 all_goals (go_wp2;go_ret;exact⟨rfl,rfl⟩)
theorem zos(b:Nat)(p:Value)(w:World)(hbk:w.heap[b]? =some (.cells #[p,.slice none 0 0] 109 (0,0))):
  Calls Tryz.prog 71 #[.pointer (some ⟨b,0,none⟩)] w fun e w'=>e=.returned (.string ⟨#[]⟩)/\w'=w.drew:=by
 have mixed:=Tryz.checked.mixed;have hUS:(Builtin.unsafeString_ #[166,3] 9 #[.pointer none,.int .i64 0]).run Tryz.prog w.drew=.ok (.string .empty) w.drew:=Lib.run_unsafeString_none w.drew _ _ _ _;have c1:w.drew.cell? ⟨b,1,none⟩=some (.slice none 0 0):=by have:w.drew.heap[b]? =some (.cells #[p,.slice none 0 0] 109 (0,0)):=hbk;rw[Lib.cell_of_heap this];rfl
 have hSD:(Builtin.unsafeSliceData_ #[26] 166 #[.slice none 0 0]).run Tryz.prog w.drew=.ok (.pointer none) w.drew:=rfl
 go_enter Tryz.func71,Tryz.ntmps71
 go_wp2
 go_region_o
 all_goals (go_wp2;go_ret;exact⟨rfl,rfl⟩)
theorem zq5(b g cap:Nat)(p:Value)(w:World)(hc0:cap≠0)(hbk:w.heap[b]? =some (.cells #[p,.slice (some ⟨g,0,none⟩) 0 cap] 109 (0,0))):
  Calls Tryz.prog 71 #[.pointer (some ⟨b,0,none⟩)] w fun e w'=>e=.returned (.string ⟨#[]⟩)/\w'=w.drew:=by
 have mixed:=Tryz.checked.mixed;have hUS:(Builtin.unsafeString_ #[166,3] 9 #[.pointer (some ⟨g,0,none⟩),.int .i64 0]).run Tryz.prog w.drew=.ok (.string .empty) w.drew:=Lib.run_unsafeString_none w.drew _ _ _ _;have c1:w.drew.cell? ⟨b,1,none⟩=some (.slice (some ⟨g,0,none⟩) 0 cap):=by have:w.drew.heap[b]? =some (.cells #[p,.slice (some ⟨g,0,none⟩) 0 cap] 109 (0,0)):=hbk;rw[Lib.cell_of_heap this];rfl
 have hSD:(Builtin.unsafeSliceData_ #[26] 166 #[.slice (some ⟨g,0,none⟩) 0 cap]).run Tryz.prog w.drew=.ok (.pointer (some ⟨g,0,none⟩)) w.drew:=
  Lib.run_unsafeSliceData_row _ _ _ _ _ _ hc0
 clear hc0
 go_enter Tryz.func71,Tryz.ntmps71
 go_wp2
 go_region_o
 all_goals (go_wp2;go_ret;exact⟨rfl,rfl⟩)
theorem zmp(b g:Nat)(p:Value)(cur:Array Value)(fr:Nat×Nat)(w:World)(hbk:w.heap[b]? =some (.cells #[p,.slice (some ⟨g,0,none⟩) 0 0] 109 (0,0)))(hg:w.heap[g]? =some (.cells cur 5 fr)):
  Calls Tryz.prog 71 #[.pointer (some ⟨b,0,none⟩)] w fun e w'=>e=.returned (.string ⟨#[]⟩)/\Vc.Keeps [] w w':=by
 have mixed:=Tryz.checked.mixed;have hUS:∀W q,(Builtin.unsafeString_ #[166,3] 9 #[.pointer q,.int .i64 0]).run Tryz.prog W=.ok (.string .empty) W:=fun W q=>Lib.run_unsafeString_none W _ _ _ _
 have hlt:b<w.heap.size:=(Array.getElem?_eq_some_iff.1 hbk).1;have c1:w.drew.cell? ⟨b,1,none⟩=some (.slice (some ⟨g,0,none⟩) 0 0):=by have:w.drew.heap[b]? =some (.cells #[p,.slice (some ⟨g,0,none⟩) 0 0] 109 (0,0)):=hbk;rw[Lib.cell_of_heap this];rfl
 have hSD:(Builtin.unsafeSliceData_ #[26] 166 #[.slice (some ⟨g,0,none⟩) 0 0]).run Tryz.prog w.drew=.ok (.pointer (some ⟨w.drew.heap.size,0,none⟩)) (w.drew.alloc (.view ⟨g,0,none⟩ 5)):=
  Lib.run_unsafeSliceData_zero w.drew _ _ 5 (by kernel_rfl) ⟨g,0,none⟩ 0 (5,cur.size) (by have hg':w.drew.heap[g]? =some (.cells cur 5 fr):=hg;simp[World.shape?,hg'])
 have c2:(w.drew.alloc (.view ⟨g,0,none⟩ 5)).cell? ⟨b,1,none⟩=some (.slice (some ⟨g,0,none⟩) 0 0):=by have:(w.drew.alloc (.view ⟨g,0,none⟩ 5)).heap[b]? =_:=(Lib.alloc_old w.drew _ b hlt).trans hbk;rw[Lib.cell_of_heap this];rfl
 have c3:(w.alloc (.view ⟨g,0,none⟩ 5)).drew.cell? ⟨b,1,none⟩=some (.slice (some ⟨g,0,none⟩) 0 0):=c2;have c0:w.cell? ⟨b,1,none⟩=some (.slice (some ⟨g,0,none⟩) 0 0):=c1
 go_enter Tryz.func71,Tryz.ntmps71
 go_wp2
 go_region_o
 all_goals (go_wp2;go_ret;exact⟨rfl,.of_below ((Below.drew (Below.refl _ w)).alloc (mK _) _)⟩)
theorem zvC{R:Ro}{G:List Res}{w w':World}{v:AV}{l:uBi}{r1:Res}(W:WRel R G [some (.cells 109 [.ptr 0 0,v]),some (.bytes 5 l)] w)(hr1:G[1]? =some r1)(k:Keeps r1.fp w w'):
  WRel R G [some (.cells 109 [.ptr 0 0,.undef]),none] w'/\Since ⟨R,Am.look G [some (.cells 109 [.ptr 0 0,v]),some (.bytes 5 l)],fpsAll G [some (.cells 109 [.ptr 0 0,v]),some (.bytes 5 l)],w,2⟩ R G [some (.cells 109 [.ptr 0 0,.undef]),none] w':=by
 have F:=QD W;obtain⟨r0,hr0,hlk0,hv0,hfp0,cs,hcs,hrel⟩:=F.look_live (i:=0) rfl;have two:∀{h:Heap}{i:Nat},h.length=2->i∉[0,1]->¬live h i:=fun hl hi hlv=>by have:=ja hlv;simp at hi;omega
 have dead1:¬live [some (.cells 109 [.ptr 0 0,.undef]),none] 1:=fun⟨o,ho⟩=>by simp[hget]at ho
 refine yE (G':=G) (h':=[some (.cells 109 [.ptr 0 0,.undef]),none]) (A:=[0,1]) (Fr:=fun _=>False) F.wrel F.since k
  (fun b hb=>.inr ⟨1,r1,by simp,⟨_,rfl⟩,hr1,hb⟩) (fun _ h=>h.elim) (by simpa using W.len) (by simp) (fun i hi hl=>(two rfl hi hl).elim)
  (fun i o hi ho=>(two rfl hi ⟨o,ho⟩).elim) (fun _ _ h=>h) (fun b o h1 h2=>by rw[h1]at h2;cases h2)
  (fun i o r hi ho hr=>?_) (fun i j ri rj hij hi hj hli hlj=>?_) (fun i hi hA hl=>?_)
 ·rcases mZ.1 hi with rfl|hi
  ·have ho:some (AO.cells 109 [.ptr 0 0,.undef])=some o:=ho;cases ho;rw[hr0]at hr;cases hr;obtain⟨c0,cr,rfl,⟨f,hf,hfv,rfl⟩,c1,cr1,rfl,h1,hcr⟩:=hrel;have hcr:cr1=[]:=hcr;subst hcr;rw[hlk0]at hf;cases hf;refine⟨⟨hv0,hfp0,[.pointer (some ⟨r0.b,0,none⟩),c1],?_,_,_,rfl,⟨_,zK (o:=.cells 109 [.ptr 0 0,.undef]) rfl hr0,hv0,rfl⟩,_,_,rfl,trivial,rfl⟩,fun b hb=>⟨W.sepR 0 r0 ⟨_,rfl⟩ hr0 b hb,.inr (.inl ⟨0,r0,by simp,⟨_,rfl⟩,hr0,hb⟩)⟩⟩;rw[k.block r0.b (zM hcs) (fun hm=>W.sep 0 1 r0 r1 (by simp) ⟨_,rfl⟩ ⟨_,rfl⟩ hr0 hr1 r0.b (by rw[hfp0];simp) hm)];exact hcs
  ·have hi:i=1:=by simpa using hi
   subst hi;exact (dead1 ⟨o,ho⟩).elim
 ·have z:∀x,x∈[0,1]->live [some (.cells 109 [.ptr 0 0,.undef]),none] x->x=0:=by
   intro x hx hl;rcases mZ.1 hx with rfl|hx
   ·rfl
   ·have hx:x=1:=by simpa using hx
    subst hx;exact (dead1 hl).elim
  exact (hij ((z i hi hli).trans (z j hj hlj).symm)).elim
 ·rcases mZ.1 hA with rfl|hA
  ·show Am.look G _ 0=Am.look G _ 0;rw[zK (o:=.cells 109 [.ptr 0 0,.undef]) rfl hr0,zK (o:=.cells 109 [.ptr 0 0,v]) rfl hr0];rfl
  ·have hA:i=1:=by simpa using hA
   subst hA;exact (dead1 hl).elim
theorem ztc{b:Nat}{p V:Value}{l:uBi}{r:Res}{w:World}(hbk:w.heap[b]? =some (.cells #[p,V] 109 (0,0)))(hrow:RowAt w r 5 1 l.length (fun cs=>cs=l.map u8V))(hV:V=yk r l.length)(hc:r.cap<=maxLen\/l.length<=maxLen):
  Calls Tryz.prog 71 #[.pointer (some ⟨b,0,none⟩)] w fun e w'=>e=.returned (.string (bs l))/\Keeps r.fp w w':=by
 subst hV;have hlm:l.length<=9223372036854775807:=by
  rcases hrow with⟨_,h0,_⟩|⟨_,_,hle,_⟩
  ·omega
  ·rcases hc with hc|hc
   ·exact nB hle hc
   ·exact hc
 rcases hrow with⟨g1,g2,g3,g4⟩|⟨g1,g2,g3,cs,tl,fr,g4,g5,g6,g7,g8⟩
 ·have hl:l=[]:=nQ.1 g2;subst hl;rw[show yk r ([]:uBi).length=.slice none 0 0 by simp[yk,g1]]at hbk;exact (zos b p w hbk).mono fun e w' ⟨he,hw⟩=>⟨he,by subst hw;exact Keeps.drawn w _⟩
 ·rw[show yk r l.length=.slice (some ⟨r.b,0,none⟩) l.length r.cap by simp[yk,g1]]at hbk;rw[g2];have hd:Keeps [r.b] w w.drew:=Keeps.drawn w _;by_cases hl:l=[]
  ·subst hl;by_cases hcap:r.cap=0
   ·rw[hcap]at hbk;exact (zmp b r.b p _ fr w hbk g4).mono fun e w' ⟨he,hw⟩=>⟨he,hw.wide⟩
   ·exact (zq5 b r.b r.cap p w hcap hbk).mono fun e w' ⟨he,hw⟩=>⟨he,by subst hw;exact hd⟩
  ·have hg6:cs.length=l.length:=by rw[g5];simp
   refine(ztb b r.b r.cap p _ fr l w hl hbk g4 g3 (by simp;omega) hlm (fun j x hj=>?_)).mono fun e w' ⟨he,hw⟩=>⟨he,?_⟩
   ·rw[QE,uAN];have hjl:j<l.length:=(mH.1 hj).1;simp only[World.cell?,g4];have:(cs++tl).toArray[j]? =some (u8V x):=by simp only[uBc];rw[mU (by omega),g5,uAl,hj];rfl
    simpa[u8V]using this
   ·subst hw;refine hd.trans ⟨by unfold World.freeze;split<;>rfl,by unfold World.freeze;split<;>rfl,by unfold World.freeze;split<;>rfl,by unfold World.freeze;split<;>simp,fun k hk hne=>?_⟩;have hne:k≠r.b:=by simpa using hne
    unfold World.freeze;split
    ·rfl
    ·simp[Array.getElem?_modify,Ne.symm hne]
def Kz(l:uBi):Bool:=decide (l.length<=9223372036854775807)
def zfX(vs:List AV)(h:Heap):Option (Bool×uBi):=match vs,h with
 |[.ptr 0 0],[some (.cells 109 [.ptr 0 0,.rw 1]),some (.bytes 5 l)]=>some (false,l)
 |[.ptr 0 0],[some (.cells 109 [.ptr 0 0,.rwp 1]),some (.bytes 5 l)]=>some (true,l)
 |_,_=>none
def zsQ(_N:Nat):Con:=Con6.c ⟨71,Bool×uBi,uBi,zfX,fun x=>chk (Kz x.2) (some x.2),fun _ l=>⟨.str l,[some (.cells 109 [.ptr 0 0,.undef]),none]⟩⟩
theorem zao(N:Nat):SoundC Tryz.prog GP (zsQ N):=by
 intro args h x r hd hs;have hd:zfX args h=some x:=hd;have hs:chk (Kz x.2) (some x.2)=some r:=hs;obtain⟨hm,hs⟩:=zk hs;cases hs;have hm:=of_decide_eq_true hm;have key:∀{v:AV}{l:uBi},l.length<=9223372036854775807->(∀(L:Lk)(R:Ro)(r1:Res)(V:Value),L 1=some ⟨r1.b,r1.virt,r1.cap,l.length⟩->Rel L R v V->V=yk r1 l.length)->
   ∀R G w vs,GP R->WRel R G [some (.cells 109 [.ptr 0 0,v]),some (.bytes 5 l)] w->RelL (Am.look G [some (.cells 109 [.ptr 0 0,v]),some (.bytes 5 l)]) R [.ptr 0 0] vs->
   Calls Tryz.prog 71 vs.toArray w fun e w'=>∃V R' G',e=.returned V/\WRel R' G' [some (.cells 109 [.ptr 0 0,.undef]),none] w'/\
   Since ⟨R,Am.look G [some (.cells 109 [.ptr 0 0,v]),some (.bytes 5 l)],fpsAll G [some (.cells 109 [.ptr 0 0,v]),some (.bytes 5 l)],w,2⟩ R' G' [some (.cells 109 [.ptr 0 0,.undef]),none] w'/\Rel (Am.look G' [some (.cells 109 [.ptr 0 0,.undef]),none]) R' (.str l) V:=by
  intro v l hlm hv R G w vs hGP W hargs;have F:=QD W;obtain⟨r0,hr0,hlk0,hv0,hfp0,cs,hcs,hrel⟩:=F.look_live (i:=0) rfl;obtain⟨r1,hr1,hlk1,hrow⟩:=F.look_live (i:=1) rfl;obtain⟨u,us,rfl,⟨f,hf,_,rfl⟩,hus⟩:=hargs;have hus:us=[]:=hus;subst hus;rw[hlk0]at hf;cases hf;obtain⟨c0,cr,rfl,h0,c1,cr1,rfl,h1,hcr⟩:=hrel;have hcr:cr1=[]:=hcr;subst hcr;have hV:=hv _ _ r1 _ hlk1 h1;simp only[ObjRel]at hrow;refine(ztc hcs hrow hV (.inr hlm)).mono fun e w' ⟨he,hk⟩=>?_
  obtain⟨g1,g2⟩:=zvC W hr1 hk;exact⟨_,R,G,he,g1,g2,rfl⟩
 unfold zfX at hd;split at hd
 ·cases hd;refine⟨jE (by kernel_rfl),key hm fun L R r1 V hL hV=>?_⟩;obtain⟨f,hf,h2,h3⟩:=hV;rw[hL]at hf;cases hf;unfold yk;cases hv:r1.virt with
  |true=>simp only[if_true];exact (h2 hv).2
  |false=>simp only[nF,if_false];exact h3 hv
 ·cases hd;refine⟨jE (by kernel_rfl),key hm fun L R r1 V hL hV=>?_⟩;obtain⟨f,hf,h2,_,h3⟩:=hV;rw[hL]at hf;cases hf;unfold yk;rw[if_neg (by simpa using h2)];exact h3
 ·cases hd
def zcL(vs:List AV)(h:Heap):Option Unit:=match vs,h with
 |[.ptr 0 0],[some (.cells 109 [.nilp,.nils])]=>some ()
 |_,_=>none
def zqy(_N:Nat):Con:=Con6.c ⟨71,Unit,Unit,zcL,fun _=>some (),fun _ _=>⟨.str [],[some (.cells 109 [.nilp,.nils])]⟩⟩
theorem zlU(N:Nat):SoundC Tryz.prog GP (zqy N):=by
 intro args h x r hd hs;have hd:zcL args h=some x:=hd;unfold zcL at hd;split at hd
 ·cases hd;refine⟨jE (by kernel_rfl),fun R G w vs hGP W hargs=>?_⟩;have F:=QD W;obtain⟨r0,hr0,hlk0,hv0,hfp0,cs,hcs,hrel⟩:=F.look_live (i:=0) rfl;obtain⟨u,us,rfl,⟨f,hf,_,rfl⟩,hus⟩:=hargs;have hus:us=[]:=hus;subst hus;rw[hlk0]at hf;cases hf;obtain⟨c0,cr,rfl,h0,c1,cr1,rfl,h1,hcr⟩:=hrel;have hcr:cr1=[]:=hcr;subst hcr;have h1:c1=.slice none 0 0:=h1;subst h1;refine(zos r0.b c0 w hcs).mono fun e w' ⟨he,hw⟩=>?_
  subst hw;have F':=F.keep (Keeps.drawn w (w.drew).drawn:Keeps [] w w.drew);exact⟨_,R,G,he,F'.wrel,F'.since,rfl⟩
 ·cases hd
end Go.Proofs.C06
end
section
set_option maxHeartbeats 4000000
set_option maxRecDepth 100000
namespace Go.Proofs.C06
open Go Go.RowKit Go.Vc Go.Am
def zwb(b n:Nat)(w:World)(e:Ending)(w':World):Prop:=e=.returned (.tuple #[])/\Keeps [b] w w'/\∃g cap cs,w.heap.size<=g/\n<=cap/\cs.size=cap/\w'.heap[b]? =some (.cells #[.pointer (some ⟨b,0,none⟩),.slice (some ⟨g,0,none⟩) 0 cap] 109 (0,0))/\w'.heap[g]? =some (.cells cs 5 (0,0))
theorem ztF{b n:Nat}{w:World}{cs:Array Value}(hbk:w.heap[b]? =some (.cells #[.pointer (some ⟨b,0,none⟩),.slice none 0 0] 109 (0,0)))(hle:n<=cs.size):
  zwb b n w (.returned (.tuple #[])) ((w.setCell ⟨b,1,none⟩ (.slice (some ⟨w.heap.size,0,none⟩) 0 cs.size)).alloc (.cells cs 5)).drew.drew.drew:=by
 have hlt:b<w.heap.size:=zM hbk;obtain⟨s1,s2⟩:=Kg (o:=1) (v:=.slice (some ⟨w.heap.size,0,none⟩) 0 cs.size) (cs:=[.pointer (some ⟨b,0,none⟩),.slice none 0 0]) hbk;have hz:(w.setCell ⟨b,1,none⟩ (.slice (some ⟨w.heap.size,0,none⟩) 0 cs.size)).heap.size=w.heap.size:=by simp[World.setCell]
 generalize w.setCell ⟨b,1,none⟩ (.slice (some ⟨w.heap.size,0,none⟩) 0 cs.size)=W at s1 s2 hz;have kd:Keeps [b] W (W.alloc (.cells cs 5)).drew.drew.drew:=(Keeps.of_below (((((Below.refl _ W).alloc (mK _) _).drew).drew).drew)).mono (by simp);refine⟨rfl,s2.trans kd,w.heap.size,cs.size,cs,mK _,hle,rfl,?_,?_⟩
 ·exact (Lib.alloc_old W _ b (by omega)).trans s1
 ·rw[<-hz];exact heap_alloc_new W _
theorem zr1(b n:Nat)(w:World)(hbk:w.heap[b]? =some (.cells #[.pointer (some ⟨b,0,none⟩),.slice none 0 0] 109 (0,0)))(hn:n<=281474976710656):
  Calls Tryz.prog 134 #[.pointer (some ⟨b,0,none⟩),.int .i64 n] w (zwb b n w):=by
 have mixed:=Tryz.checked.mixed;have t33:Tryz.prog.underlying 26=some (.slice 5):=by kernel_rfl
 obtain⟨cs,hrun,hle,hmax⟩:=Lib.run_makeNoZero (P:=Tryz.prog) w.drew #[3] 26 5 t33 n hn;have hw:IntKind.i64.wrap (IntKind.i64.wrap 0+(n:Int))=n:=by rw[IntKind.wrap_i64,IntKind.wrap_i64];omega
 have hcall:(callFunc 55 #[.int .i64 (IntKind.i64.wrap (IntKind.i64.wrap 0+(n:Int)))]).run Tryz.prog w.drew=.ok (.value (.slice (some ⟨w.drew.heap.size,0,none⟩) n cs.size)) (w.drew.drew.drew.alloc (.cells cs 5)):=by rw[hw,run_callFunc_extern Tryz.func55 (by kernel_rfl) (by kernel_rfl) (by kernel_rfl) (e:=Extern.BytealgMakeNoZero.makeNoZero #[3] #[26]) (by kernel_rfl),hrun];rfl
 have hlt:b<w.heap.size:=zM hbk;have c1:w.drew.cell? ⟨b,1,none⟩=some (.slice none 0 0):=by have:w.drew.heap[b]? =_:=hbk;rw[Lib.cell_of_heap this];rfl
 have hb2:(w.alloc (.cells cs 5)).heap[b]? =some (.cells #[.pointer (some ⟨b,0,none⟩),.slice none 0 0] 109 (0,0)):=(Lib.alloc_old w _ b hlt).trans hbk;have c2:(w.alloc (.cells cs 5)).cell? ⟨b,1,none⟩=some (.slice none 0 0):=by rw[Lib.cell_of_heap hb2];rfl
 have f2:(w.alloc (.cells cs 5)).frozen? ⟨b,1,none⟩=false:=Lib.frozen_of_heap hb2 1;have hsz:∃j,Tryz.prog.info? 5=some j/\j.size=1:=⟨_,rfl,by kernel_rfl⟩
 obtain⟨j,hj,hjs⟩:=hsz;have hcopy:∀W:World,(Builtin.copy_ #[26,26] 3 #[.slice (some ⟨w.heap.size,0,none⟩) 0 cs.size,.slice none 0 0]).run Tryz.prog W=.ok (goInt 0) W:=
  fun W=>run_copy_none W 26 26 3 5 _ _ 0 cs.size 0 0 t33 (by kernel_rfl) rfl
 have hfin:=ztF (w:=w) hbk hle;clear hw hj hjs
 go_enter Tryz.func134,Tryz.ntmps134
 go_wp2
 go_region_o
 all_goals (go_wp2;go_end0;exact hfin)
end Go.Proofs.C06
end
section
set_option maxHeartbeats 4000000
set_option maxRecDepth 100000
namespace Go.Proofs.C06
open Go Go.RowKit Go.Vc Go.Am
def zcM(vs:List AV)(h:Heap):Option Int:=match vs,h with
 |[.ptr 0 0,.int .i64 n],[some (.cells 109 [.ptr 0 0,.nils])]=>some n
 |_,_=>none
def QW(n:Int):Bool:=match n with
 |.ofNat m=>Nat.ble 1 m&&Nat.ble m 281474976710656
 |_=>false
theorem zmD{n:Int}(h:QW n=true):1<=n/\n<=281474976710656:=by
 unfold QW at h;split at h
 ·simp only[mF,Nat.ble_eq]at h;simp only[uBf];omega
 ·cases h
def zqA(_N:Nat):Con:=Con6.c ⟨134,Int,Unit,zcM,fun n=>chk (QW n) (some ()),fun _ _=>⟨.tup [],[some (.cells 109 [.ptr 0 0,.rwp 1]),some (.bytes 5 [])]⟩⟩
theorem zlX(N:Nat):SoundC Tryz.prog GP (zqA N):=by
 intro args h (n:Int) r hd hs;have hd:zcM args h=some n:=hd;have hs:chk (QW n) (some ())=some r:=hs;obtain⟨hm,hs⟩:=zk hs;obtain⟨hm1,hm2⟩:=zmD hm;unfold zcM at hd;split at hd
 ·cases hd;refine⟨jE (by kernel_rfl),fun R G w vs hGP W hargs=>?_⟩;have F:=QD W;obtain⟨r0,hr0,hlk0,hv0,hfp0,cs,hcs,hrel⟩:=F.look_live (i:=0) rfl;obtain⟨u,us,rfl,⟨f,hf,_,rfl⟩,u2,us2,rfl,rfl,hus⟩:=hargs;have hus:us2=[]:=hus;subst hus;rw[hlk0]at hf;cases hf;obtain⟨c0,cr,rfl,⟨f,hf,_,rfl⟩,c1,cr1,rfl,h1,hcr⟩:=hrel;have hcr:cr1=[]:=hcr;subst hcr;have h1:c1=.slice none 0 0:=h1;subst h1;rw[hlk0]at hf;cases hf;obtain⟨k,rfl⟩:∃k:Nat,n=k:=⟨n.toNat,by omega⟩
  refine(zr1 r0.b k w hcs (by omega)).mono fun e w' ⟨he,kp,g,cap,cells,hg,hcap,hsz,hb',hg'⟩=>?_
  have hlt:r0.b<w.heap.size:=zM hcs;have hG:G.length=1:=by simpa using W.len
  have hG0:∀r',[r0,⟨g,false,cap,[g]⟩][0]? =some r'->r'=r0:=fun r' h=>by simpa using h.symm
  have l0:Am.look [r0,(⟨g,false,cap,[g]⟩:Res)] [some (.cells 109 [.ptr 0 0,.rwp 1]),some (.bytes 5 [])] 0=some ⟨r0.b,r0.virt,r0.cap,0⟩:=rfl;have l1:Am.look [r0,(⟨g,false,cap,[g]⟩:Res)] [some (.cells 109 [.ptr 0 0,.rwp 1]),some (.bytes 5 [])] 1=some ⟨g,false,cap,0⟩:=rfl;have two:∀{h:Heap}{i:Nat},h.length=2->i∉[0,1]->¬live h i:=fun hl hi hlv=>by have:=ja hlv;simp at hi;omega
  obtain⟨s1,s2⟩:=yE (R':=R) (G':=[r0,⟨g,false,cap,[g]⟩]) (h':=[some (.cells 109 [.ptr 0 0,.rwp 1]),some (.bytes 5 [])]) (A:=[0,1]) (Fr:=fun _=>False) F.wrel F.since kp
   (fun b hb=>.inr ⟨0,r0,by simp,⟨_,rfl⟩,hr0,by rw[hfp0];exact hb⟩) (fun _ h=>h.elim) rfl (by simp) (fun i hi hl=>(two rfl hi hl).elim)
   (fun i o hi ho=>(two rfl hi ⟨o,ho⟩).elim) (fun _ _ h=>h) (fun b o h1 h2=>by rw[h1]at h2;cases h2)
   (fun i o r hi ho hr=>by
    rcases mZ.1 hi with rfl|hi
    ·have ho:some (AO.cells 109 [.ptr 0 0,.rwp 1])=some o:=ho;cases ho;have hr:=hG0 _ hr;subst hr;exact⟨⟨hv0,hfp0,[.pointer (some ⟨r.b,0,none⟩),.slice (some ⟨g,0,none⟩) 0 cap],hb',_,_,rfl,⟨_,l0,hv0,rfl⟩,_,_,rfl,⟨_,l1,rfl,by show 1<=cap;omega,rfl⟩,rfl⟩,
      fun b hb=>⟨W.sepR 0 r ⟨_,rfl⟩ hr0 b hb,.inr (.inl ⟨0,r,by simp,⟨_,rfl⟩,hr0,hb⟩)⟩⟩
    ·have hi:i=1:=by simpa using hi
     subst hi;have ho:some (AO.bytes 5 [])=some o:=ho;cases ho;have hr:some (⟨g,false,cap,[g]⟩:Res)=some r:=hr;cases hr;refine⟨.inr ⟨rfl,rfl,uAR _,[],cells.toList,(0,0),by simpa using hg',rfl,rfl,by have:=hsz;simp;omega,mK _,fun j _ h2=>by omega⟩,fun b hb=>?_⟩;have hb:b=g:=by simpa using hb
     subst hb;refine⟨?_,.inr (.inr hg)⟩;cases hrb:R b with
     |none=>rfl
     |some ob=>have:=zM (W.ro _ _ hrb);omega)
   (fun i j ri rj hij hi hj hli hlj hri hrj b hb=>by
    have z:∀x,x∈[0,1]->x=0\/x=1:=by simp
    have f0:∀r,[r0,(⟨g,false,cap,[g]⟩:Res)][0]? =some r->r.fp=[r0.b]:=fun r h=>by have h:=hG0 _ h;subst h;exact hfp0
    have f1:∀r,[r0,(⟨g,false,cap,[g]⟩:Res)][1]? =some r->r.fp=[g]:=fun r h=>by have h:some (⟨g,false,cap,[g]⟩:Res)=some r:=h;cases h;rfl
    rcases z i hi with rfl|rfl<;>rcases z j hj with rfl|rfl
    ·exact (hij rfl).elim
    ·rw[f0 _ hri]at hb;rw[f1 _ hrj];simp only[mO]at hb⊢;omega
    ·rw[f1 _ hri]at hb;rw[f0 _ hrj];simp only[mO]at hb⊢;omega
    ·exact (hij rfl).elim)
   (fun i hi hA hl=>by
    have hi:i<1:=hi;have hi:i=0:=by omega
    subst hi;show Am.look _ _ 0=Am.look G _ 0;rw[l0,zK (o:=.cells 109 [.ptr 0 0,.nils]) rfl hr0];rfl)
  exact⟨_,R,_,he,s1,s2,⟨[],rfl,rfl⟩⟩
 ·cases hd
end Go.Proofs.C06
end
