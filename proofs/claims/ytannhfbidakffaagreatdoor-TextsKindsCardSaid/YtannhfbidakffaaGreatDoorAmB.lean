/-
  A part of the proof of the laws.
-/
import Derived.Test.YtannhfbidakffaaGreatDoorAm18
import Derived.Test.YtannhfbidakffaaGreatDoorAm27
import Derived.Test.YtannhfbidakffaaGreatDoorProg
import Derived.Test.YtannhfbidakffaaGreatDoorChecked
import Derived.Test.YtannhfbidakffaaGreatDoorShelf
import Derived.Shelf.Strings.SlTrimAscii
import Derived.Shelf.Strings.Builder1
import Derived.WalkKit
import Derived.Shelf.Strings.Builder2
set_option maxHeartbeats 4000000
set_option maxRecDepth 100000
namespace Go.Proofs.C06
open Go Go.RowKit Go.Vc Go.Am
def nG:Nat:=14
structure Gd(w:World):Prop where
 maxLen:∃m,w.cell? ⟨0,0,none⟩=some (.int .i64 m)
 pow:Lib.TabIs Tryz.prog w "internal/strconv.uint64pow10" .u64 Lib.pow10Tab
def gl:Glob:=[(10,.agg [.int .u8 36,.int .u8 43,.int .u8 45])]
def GP(R:Ro):Prop:=(∀w:World,(∀b o,R b=some o->w.heap[b]? =some o)->Gd w)/\GlobOK gl R
theorem gd(R:Ro)(w:World)(h:GP R)(j:∀b o,R b=some o->w.heap[b]? =some o):Gd w:=h.1 w j
theorem zDV(R:Ro)(h:GP R):GlobOK gl R:=h.2
theorem zsV:Stays GP:=fun R R' j h=>⟨fun w B=>h.1 w fun b o H=>B b o (j b o H),fun g=>zn j _ _ (fun i hi=>by rw[YH]at hi;cases hi) (h.2 g)⟩
theorem mixed:Tryz.prog.follows .mixedOrders=true:=Tryz.checked.mixed
theorem bas:Bas Tryz.prog GP gl:=⟨mixed,zDV,zsV⟩
def j2(vs:List AV)(h:Heap):Option (uAU×uAU):=match vs,h with
 |[.str B,.str j],[]=>some (B,j)
 |_,_=>none
theorem qu(vs:List AV)(h:Heap)(x:uAU×uAU)(j:j2 vs h=some x):vs=[.str x.1,.str x.2]/\h=[]:=by unfold j2 at j;split at j<;>cases j;exact⟨rfl,rfl⟩
def VA(_:Nat):Con:=Con6.c ⟨165,uAU×uAU,Bool,j2,fun x=>zbp x.1 x.2,fun _ r=>⟨.bool r,[]⟩⟩
theorem QX(N:Nat):SoundC Tryz.prog GP (VA N):=zZ gd (fun x=>[.str x.1,.str x.2]) (fun x=>[.string (bs x.1),.string (bs x.2)]) (fun r=>.bool r) kR qu (fun _=>rfl) (fun _=>rfl) fun x r w H h=>by cases h;exact (Tryz.strings_HasPrefix (bs x.1) (bs x.2) w).mono fun e w' ⟨j,B⟩=>⟨j,.of_eq B⟩
def VF(_:Nat):Con:=Con6.c ⟨83,uAU×uAU,uAU×Bool,j2,fun x=>YD x.1 x.2,fun _ r=>⟨.tup [.str r.1,.bool r.2],[]⟩⟩
theorem ZN(N:Nat):SoundC Tryz.prog GP (VF N):=zZ gd (fun x=>[.str x.1,.str x.2]) (fun x=>[.string (bs x.1),.string (bs x.2)]) (fun r=>.tuple #[.string (bs r.1),.bool r.2]) kR qu (fun _=>rfl) (fun _=>rfl) fun x r w H h=>by cases h;exact (Tryz.strings_CutPrefix (bs x.1) (bs x.2) w).mono fun e w' ⟨j,B⟩=>⟨j,.of_eq B⟩
def VE(_:Nat):Con:=Con6.c ⟨177,uAU×uAU,uAU×Bool,j2,fun x=>qC x.1 x.2,fun _ r=>⟨.tup [.str r.1,.bool r.2],[]⟩⟩
theorem ZM(N:Nat):SoundC Tryz.prog GP (VE N):=zZ gd (fun x=>[.str x.1,.str x.2]) (fun x=>[.string (bs x.1),.string (bs x.2)]) (fun r=>.tuple #[.string (bs r.1),.bool r.2]) kR qu (fun _=>rfl) (fun _=>rfl) fun x r w H h=>by obtain⟨hc,h⟩:=zm h;cases h;exact (Tryz.strings_CutSuffix (bs x.1) (bs x.2) w (by rw[jt];exact Zr hc)).mono fun e w' ⟨j,B⟩=>⟨j,.of_eq B⟩
def KO(_:Nat):Con:=Con6.c ⟨120,uAU×uAU,uAU,j2,fun x=>Vv x.1 x.2,fun _ r=>⟨.str r,[]⟩⟩
theorem Y2(N:Nat):SoundC Tryz.prog GP (KO N):=zZ gd (fun x=>[.str x.1,.str x.2]) (fun x=>[.string (bs x.1),.string (bs x.2)]) (fun r=>.string (bs r)) kR qu (fun _=>rfl) (fun _=>rfl) fun x r w H h=>by obtain⟨hc,h⟩:=zm h;cases h;exact (Tryz.strings_TrimSuffix (bs x.1) (bs x.2) w (by rw[jt];exact Zr hc)).mono fun e w' ⟨j,B⟩=>⟨j,.of_eq B⟩
def ziV(vs:List AV)(h:Heap):Option (uAU×Int):=match vs,h with
 |[.str B,.int .u8 j],[]=>some (B,j)
 |_,_=>none
theorem zCm(vs:List AV)(h:Heap)(x:uAU×Int)(j:ziV vs h=some x):vs=[.str x.1,.int .u8 x.2]/\h=[]:=by unfold ziV at j;split at j<;>cases j;exact⟨rfl,rfl⟩
def Vy(_:Nat):Con:=Con6.c ⟨180,uAU×Int,Int,ziV,fun x=>yo x.1 x.2,fun _ r=>⟨.int .i64 r,[]⟩⟩
theorem y9(N:Nat):SoundC Tryz.prog GP (Vy N):=zZ gd (fun x=>[.str x.1,.int .u8 x.2]) (fun x=>[.string (bs x.1),.int .u8 x.2]) (fun r=>.int .i64 r) kR zCm (fun _=>rfl) (fun _=>rfl) fun x r w H h=>by cases h;exact (Tryz.strings_IndexByte (bs x.1) x.2 w).mono fun e w' ⟨j,B⟩=>⟨j,.of_eq B⟩
def zoR(_:Nat):Con:=Con6.c ⟨271,uAU×uAU,uAU×uAU×Bool,j2,fun x=>zDN x.1 x.2,fun _ r=>⟨.tup [.str r.1,.str r.2.1,.bool r.2.2],[]⟩⟩
theorem zhZ(N:Nat):SoundC Tryz.prog GP (zoR N):=zZ gd (fun x=>[.str x.1,.str x.2]) (fun x=>[.string (bs x.1),.string (bs x.2)]) (fun r=>.tuple #[.string (bs r.1),.string (bs r.2.1),.bool r.2.2]) kR qu (fun _=>rfl) (fun _=>rfl) fun x r w H h=>by obtain⟨hc,h⟩:=zm h;cases h;obtain⟨m,I⟩:=H.maxLen;exact (Tryz.strings_Cut (bs x.1) (bs x.2) m w (by rw[jt];exact Zr hc) I).mono fun e w' ⟨j,n,B⟩=>⟨j,B▸Keeps.drewN _ _⟩
def zh0(_:Nat):Con:=Con6.c ⟨178,uAU×uAU,Int,j2,fun x=>ZO x.1 x.2,fun _ r=>⟨.int .i64 r,[]⟩⟩
theorem qc(N:Nat):SoundC Tryz.prog GP (zh0 N):=zZ gd (fun x=>[.str x.1,.str x.2]) (fun x=>[.string (bs x.1),.string (bs x.2)]) (fun r=>.int .i64 r) kR qu (fun _=>rfl) (fun _=>rfl) fun x r w H h=>by
 obtain⟨s,p⟩:=x
 match p,h with
 |[c],h=>cases h;exact (Tryz.strings_Count_one (bs s) c w).mono fun e w' ⟨j,B⟩=>⟨j,.of_eq B⟩
def zaJ(_:Nat):Con:=Con6.c ⟨292,uAU×uAU,Bool,j2,fun x=>Q0 x.1 x.2,fun _ r=>⟨.bool r,[]⟩⟩
theorem Jz(N:Nat):SoundC Tryz.prog GP (zaJ N):=zZ gd (fun x=>[.str x.1,.str x.2]) (fun x=>[.string (bs x.1),.string (bs x.2)]) (fun r=>.bool r) kR qu (fun _=>rfl) (fun _=>rfl) fun x r w H h=>by
 obtain⟨s,p⟩:=x
 match p,h with
 |[c],h=>cases h;exact (Tryz.strings_Contains_one (bs s) c w).mono fun e w' ⟨j,B⟩=>⟨j,.of_eq B⟩
def zaF(_:Nat):Con:=Con6.c ⟨152,uAU×uAU,uAU,j2,fun x=>J0 x.1 x.2,fun _ r=>⟨.str r,[]⟩⟩
theorem Jy(N:Nat):SoundC Tryz.prog GP (zaF N):=zZ gd (fun x=>[.str x.1,.str x.2]) (fun x=>[.string (bs x.1),.string (bs x.2)]) (fun r=>.string (bs r)) kR qu (fun _=>rfl) (fun _=>rfl) fun x r w H h=>by obtain⟨hc,h⟩:=zm h;obtain⟨hc,ha⟩:=KX hc;cases h;exact (Any.strings_TrimLeft_laid Tryz.lays161 kR (bs x.1) (bs x.2) w (by rw[jt];exact Zr hc) (Wf ha)).mono fun e w' ⟨j,B⟩=>⟨j,.of_below B⟩
def Vw(_:Nat):Con:=Con6.c ⟨253,uAU×uAU,uAU,j2,fun x=>zbo x.1 x.2,fun _ r=>⟨.str r,[]⟩⟩
theorem QV(N:Nat):SoundC Tryz.prog GP (Vw N):=zZ gd (fun x=>[.str x.1,.str x.2]) (fun x=>[.string (bs x.1),.string (bs x.2)]) (fun r=>.string (bs r)) kR qu (fun _=>rfl) (fun _=>rfl) fun x r w I h=>by obtain⟨hc,h⟩:=zm h;obtain⟨hc,ha⟩:=KX hc;obtain⟨j,ha⟩:=KX ha;cases h;exact (Any.strings_TrimRight_laid Tryz.lays162 kR (bs x.1) (bs x.2) w (by rw[jt];exact Zr hc) (by rw[jt];exact Zr j) (Wf ha)).mono fun e w' ⟨B,H⟩=>⟨B,.of_below H⟩
def zkk(_:Nat):Con:=Con6.c ⟨107,uAU×uAU,uAU,j2,fun x=>JE x.1 x.2,fun _ r=>⟨.str r,[]⟩⟩
theorem jL(N:Nat):SoundC Tryz.prog GP (zkk N):=zZ gd (fun x=>[.str x.1,.str x.2]) (fun x=>[.string (bs x.1),.string (bs x.2)]) (fun r=>.string (bs r)) kR qu (fun _=>rfl) (fun _=>rfl) fun x r w I h=>by obtain⟨hc,h⟩:=zm h;obtain⟨hc,ha⟩:=KX hc;obtain⟨j,ha⟩:=KX ha;cases h;exact (Any.strings_Trim_laid Tryz.lays160 kR (bs x.1) (bs x.2) w (by rw[jt];exact Zr hc) (by rw[jt];exact Zr j) (Wf ha)).mono fun e w' ⟨B,H⟩=>⟨B,.of_below H⟩
def Vz(_:Nat):Con:=Con6.c ⟨153,uAU×uAU,Bool,j2,fun x=>X7 x.1 x.2,fun _ r=>⟨.bool r,[]⟩⟩
theorem QW(N:Nat):SoundC Tryz.prog GP (Vz N):=zZ gd (fun x=>[.str x.1,.str x.2]) (fun x=>[.string (bs x.1),.string (bs x.2)]) (fun r=>.bool r) kR qu (fun _=>rfl) (fun _=>rfl) fun x r w H h=>by obtain⟨hc,h⟩:=zm h;cases h;exact (Tryz.strings_HasSuffix (bs x.1) (bs x.2) w (by rw[jt];exact Zr hc)).mono fun e w' ⟨j,B⟩=>⟨j,.of_eq B⟩
def ziW(vs:List AV)(h:Heap):Option (Int×Int):=match vs,h with
 |[.int .i64 B,.int .i64 j],[]=>some (B,j)
 |_,_=>none
theorem zCn(vs:List AV)(h:Heap)(x:Int×Int)(j:ziW vs h=some x):vs=[.int .i64 x.1,.int .i64 x.2]/\h=[]:=by unfold ziW at j;split at j<;>cases j;exact⟨rfl,rfl⟩
def VB(_:Nat):Con:=Con6.c ⟨84,Int×Int,uAU,ziW,fun x=>zbq x.1 x.2,fun _ r=>⟨.str r,[]⟩⟩
theorem QY(N:Nat):SoundC Tryz.prog GP (VB N):=zZ gd (fun x=>[.int .i64 x.1,.int .i64 x.2]) (fun x=>[.int .i64 x.1,.int .i64 x.2]) (fun r=>.string (bs r)) kR zCn (fun _=>rfl) (fun _=>rfl) fun x r w I h=>by obtain⟨hc,h⟩:=zm h;obtain⟨H,hc⟩:=KX hc;obtain⟨j,B⟩:=KX hc;cases h;obtain⟨n,b⟩:=x;obtain rfl:b=10:=Zr H;exact (Tryz.strconv_FormatInt_10 n (Zr j) (Zr B) w I.pow).mono fun e w' ⟨j,k,J,B⟩=>⟨j,B▸(Keeps.drewN _ _).trans (Keeps.grow _ _)⟩
def ziT(vs:List AV)(h:Heap):Option (uAU×Int):=match vs,h with
 |[.str B,.int .i32 j],[]=>some (B,j)
 |_,_=>none
theorem zCk(vs:List AV)(h:Heap)(x:uAU×Int)(j:ziT vs h=some x):vs=[.str x.1,.int .i32 x.2]/\h=[]:=by unfold ziT at j;split at j<;>cases j;exact⟨rfl,rfl⟩
def Y3(_:Nat):Con:=Con6.c ⟨238,uAU×Int,Bool,ziT,fun x=>Qw x.1 x.2,fun _ r=>⟨.bool r,[]⟩⟩
theorem JF(N:Nat):SoundC Tryz.prog GP (Y3 N):=zZ gd (fun x=>[.str x.1,.int .i32 x.2]) (fun x=>[.string (bs x.1),.int .i32 x.2]) (fun r=>.bool r) kR zCk (fun _=>rfl) (fun _=>rfl) fun x r w H h=>by obtain⟨hc,h⟩:=zm h;obtain⟨j,B⟩:=KX hc;cases h;exact (Tryz.strings_ContainsRune_ascii (bs x.1) x.2 w (Zr j) (Zr B)).mono fun e w' ⟨j,B⟩=>⟨j,.of_eq B⟩
def QZ(_:Nat):Con:=Con6.c ⟨270,uAU×uAU,Bool,j2,fun x=>JN x.1 x.2,fun _ r=>⟨.bool r,[]⟩⟩
theorem YE(N:Nat):SoundC Tryz.prog GP (QZ N):=zZ gd (fun x=>[.str x.1,.str x.2]) (fun x=>[.string (bs x.1),.string (bs x.2)]) (fun r=>.bool r) kR qu (fun _=>rfl) (fun _=>rfl) fun x r w J h=>by obtain⟨hc,h⟩:=zm h;obtain⟨j,hc⟩:=KX hc;obtain⟨B,hc⟩:=KX hc;obtain⟨H,I⟩:=KX hc;cases h;exact (Tryz.strings_ContainsAny_laid (bs x.1) (bs x.2) w (by rw[jt];exact Zr j) (by rw[jt];exact Zr B) (Wf H) (Wf I)).mono fun e w' ⟨j,B⟩=>⟨j,.of_below B⟩
def zni(vs:List AV)(h:Heap):Option (Int):=match vs,h with
 |[.int .i32 j],[]=>some j
 |_,_=>none
theorem zEh(vs:List AV)(h:Heap)(x:Int)(j:zni vs h=some x):vs=[.int .i32 x]/\h=[]:=by unfold zni at j;split at j<;>cases j;exact⟨rfl,rfl⟩
def zcA(_:Nat):Con:=Con6.c ⟨182,Int,Int,zni,fun x=>Yy x,fun _ r=>⟨.int .i64 r,[]⟩⟩
theorem Yx(N:Nat):SoundC Tryz.prog GP (zcA N):=zZ gd (fun x=>[.int .i32 x]) (fun x=>[.int .i32 x]) (fun r=>.int .i64 r) kR zEh (fun _=>rfl) (fun _=>rfl) fun x r w H h=>by cases h;exact (Tryz.utf8_RuneLen x w).mono fun e w' ⟨j,B⟩=>⟨j,.of_eq B⟩
def ziU(vs:List AV)(h:Heap):Option (uAU×Int):=match vs,h with
 |[.str B,.int .i64 j],[]=>some (B,j)
 |_,_=>none
theorem zCl(vs:List AV)(h:Heap)(x:uAU×Int)(j:ziU vs h=some x):vs=[.str x.1,.int .i64 x.2]/\h=[]:=by unfold ziU at j;split at j<;>cases j;exact⟨rfl,rfl⟩
def zeI(_:Nat):Con:=Con6.c ⟨106,uAU×Int,uAU,ziU,fun x=>j9 x.1 x.2,fun _ r=>⟨.str r,[]⟩⟩
theorem jD(N:Nat):SoundC Tryz.prog GP (zeI N):=zZ gd (fun x=>[.str x.1,.int .i64 x.2]) (fun x=>[.string (bs x.1),.int .i64 x.2]) (fun r=>.string (bs r)) kR zCl (fun _=>rfl) (fun _=>rfl) fun x r w I h=>by
 obtain⟨hc,h⟩:=zm h;obtain⟨j,hc⟩:=KX hc;obtain⟨B,H⟩:=KX hc;have j:=Zr j;have B:=Zr B;have H:=Zr H;cases h;obtain⟨s,c⟩:=x;obtain⟨k,rfl⟩:∃k:Nat,c=k:=⟨c.toNat,by simp only at j;omega⟩
 simp only[mV]at*
 exact (Tryz.strings_Repeat (bs s) k w oM (by rw[jt];exact H)).mono fun e w' ⟨j,B⟩=>⟨j,.of_below B⟩
def znj(vs:List AV)(h:Heap):Option (Int):=match vs,h with
 |[.int .i64 j],[]=>some j
 |_,_=>none
theorem zEi(vs:List AV)(h:Heap)(x:Int)(j:znj vs h=some x):vs=[.int .i64 x]/\h=[]:=by unfold znj at j;split at j<;>cases j;exact⟨rfl,rfl⟩
def zkm(_:Nat):Con:=Con6.c ⟨156,Int,uAU,znj,fun x=>zoP x,fun _ r=>⟨.str r,[]⟩⟩
theorem zeJ(N:Nat):SoundC Tryz.prog GP (zkm N):=zZ gd (fun x=>[.int .i64 x]) (fun x=>[.int .i64 x]) (fun r=>.string (bs r)) kR zEi (fun _=>rfl) (fun _=>rfl) fun x r w H h=>by obtain⟨hc,h⟩:=zm h;obtain⟨j,B⟩:=KX hc;cases h;exact (Tryz.strconv_Itoa x (Zr j) (Zr B) w H.pow).mono fun e w' ⟨j,k,I,B⟩=>⟨j,B▸(Keeps.drewN _ _).trans (Keeps.grow _ _)⟩
def znh(vs:List AV)(h:Heap):Option uAU:=match vs,h with
 |[.str j],[]=>some j
 |_,_=>none
theorem zEg(vs:List AV)(h:Heap)(x:uAU)(j:znh vs h=some x):vs=[.str x]/\h=[]:=by unfold znh at j;split at j<;>cases j;exact⟨rfl,rfl⟩
def zkn(_:Nat):Con:=Con6.c ⟨300,uAU,Int,znh,fun x=>ztP x,fun _ r=>⟨.tup [.int .i64 r,.nili],[]⟩⟩
theorem zeK(N:Nat):SoundC Tryz.prog GP (zkn N):=zZ gd (fun x=>[.str x]) (fun x=>[.string (bs x)]) (fun r=>.tuple #[.int .i64 r,.nilIface]) kR zEg (fun _=>rfl) (fun _=>rfl) fun x r w H h=>by obtain⟨hc,h⟩:=zm h;exact (Tryz.strconv_Atoi (bs x) r (by rw[jt];exact Zr hc) h w).mono fun e w' ⟨j,t,B⟩=>⟨j,by subst B;exact .of_below (Lib.bytesWorld_below _ _ _)⟩
theorem zCd(b:Nat)(w:World)(I:w.cell? ⟨b,0,none⟩=some (.pointer (some ⟨b,0,none⟩))):
  Calls Tryz.prog 235 #[.pointer (some ⟨b,0,none⟩)] w fun e w'=>e=.returned (.tuple #[])/\w'=w:=by
 have B:∃j,Tryz.prog.info? 263=some j:=⟨_,rfl⟩
 obtain⟨j,H⟩:=B
 go_enter Tryz.func235,Tryz.ntmps235
 go_wp2
 rw[Lib.run_neq_ptr_same w _ kR H]
 go_wp2
 go_end0
 exact⟨rfl,rfl⟩
theorem zyV(b:Nat)(w:World)(Y:w.cell? ⟨b,0,none⟩=some (.pointer none))(I:w.shape? b=some (263,2))(U:w.frozen? ⟨b,0,none⟩=false):
  Calls Tryz.prog 235 #[.pointer (some ⟨b,0,none⟩)] w fun e w'=>e=.returned (.tuple #[])/\w'=w.setCell ⟨b,0,none⟩ (.pointer (some ⟨b,0,none⟩)):=by
 have J:∃j,Tryz.prog.info? 263=some j/\j.size=2:=⟨_,rfl,kR⟩
 obtain⟨j,S,O⟩:=J;have H:Tryz.prog.underlying 261=some (.pointer 263):=kR
 have B:Tryz.prog.underlying 362=some (.unsafePointer):=kR
 go_enter Tryz.func235,Tryz.ntmps235
 go_wp2
 rw[Lib.run_to_unsafe w ⟨b,0,none⟩ H B S (by rw[O];decide) I (Nat.zero_lt_succ 1)];simp only[Result.andThen];rw[Oper.upon_value]
 go_wp2
 rw[run_callFunc_extern Tryz.func286 kR kR kR (e:=Extern.AbiNoEscape.same) kR];rw[Lib.run_noEscape];simp only[Result.andThen];rw[Oper.upon_value]
 go_wp2
 rw[Lib.run_from_unsafe w ⟨b,0,none⟩ B H S I kR];simp only[Result.andThen];rw[Oper.upon_value]
 go_wp2
 go_end0
 exact⟨rfl,rfl⟩
def zbF(vs:List AV)(h:Heap):Option (AV×Heap):=match vs,h with
 |[.ptr 0 0],some (.cells 263 [.ptr 0 0,v])::h=>some (v,h)
 |_,_=>none
def Wb(vs:List AV)(h:Heap):Option (AV×Heap):=match vs,h with
 |[.ptr 0 0],some (.cells 263 [.nilp,v])::h=>some (v,h)
 |_,_=>none
def ziC(_:Nat):Con:=Con6.c ⟨235,AV×Heap,Unit,zbF,fun _=>some (),fun x _=>⟨.tup [],some (.cells 263 [.ptr 0 0,x.1])::x.2⟩⟩
def ze0(_:Nat):Con:=Con6.c ⟨235,AV×Heap,Unit,Wb,fun _=>some (),fun x _=>⟨.tup [],some (.cells 263 [.ptr 0 0,x.1])::x.2⟩⟩
theorem Zt(N:Nat):SoundC Tryz.prog GP (ziC N):=by
 intro J h x r H hs;have H:zbF J h=some x:=H;unfold zbF at H;split at H
 ·rename_i v hp hq;cases H;refine⟨jk kR,fun R G w vs Z W B=>?_⟩;have F:=XC W;obtain⟨r0,hr,S,Y,hfp,cs,U,O⟩:=F.look_live (i:=0) rfl;obtain⟨u,us,rfl,⟨f,I,_,rfl⟩,j⟩:=B;have j:us=[]:=j;subst j;rw[S]at I;cases I;obtain⟨c0,cr,rfl,⟨f,I,_,rfl⟩,_⟩:=O;rw[S]at I;cases I;refine(zCd r0.b w (by simp[World.cell?,U])).mono fun e w' ⟨he,hw⟩=>?_
  subst hw;exact⟨_,R,G,he,W,F.since,⟨[],rfl,rfl⟩⟩
 ·cases H
theorem QE(N:Nat):SoundC Tryz.prog GP (ze0 N):=by
 intro Y h x r O hs;have O:Wb Y h=some x:=O;unfold Wb at O;split at O
 ·rename_i v hp hq;cases O;refine⟨jk kR,fun R G w vs hGP W J=>?_⟩;have F:=XC W;obtain⟨r0,hr,hlk,S,U,cs,B,Z⟩:=F.look_live (i:=0) rfl;obtain⟨u,us,rfl,⟨f,hf,_,rfl⟩,H⟩:=J;have H:us=[]:=H;subst H;rw[hlk]at hf;cases hf;obtain⟨c0,cr,rfl,h0,c1,cr1,rfl,h1,I⟩:=Z;have I:cr1=[]:=I;subst I;have h0:c0=.pointer none:=h0;subst h0;refine(zyV r0.b w (by simp[World.cell?,B]) (by simp[World.shape?,B]) (by simp[World.frozen?,B])).mono fun e w' ⟨he,hw⟩=>?_
  subst hw;obtain⟨s1,s2⟩:=Vb (o:=0) (v:=.pointer (some ⟨r0.b,0,none⟩)) B;obtain⟨F',_⟩:=F.write (i:=0) (ao:=.cells 263 [.ptr 0 0,v]) rfl hr rfl U s2 (fun L' hL=>⟨S,U,_,s1,_,_,rfl,⟨_,hL _ _ hlk,S,rfl⟩,_,_,rfl,zn (fun _ _ h=>h) _ _ (fun j _ f hf=>hL j f hf) h1,rfl⟩);exact⟨_,R,G,he,F'.wrel,F'.since,⟨[],rfl,rfl⟩⟩
 ·cases O
theorem zzo(b g cap:Nat)(p:Value)(B:Array Value)(fr:Nat×Nat)(l:uAU)(w:World)(I:l≠[])(U:w.heap[b]? =some (.cells #[p,.slice (some ⟨g,0,none⟩) l.length cap] 263 (0,0)))
  (hg:w.heap[g]? =some (.cells B 5 fr)) (hn:l.length<=cap) (O:l.length<=B.size) (J:l.length<=9223372036854775807) (H:∀j x,l[j]? =some x->w.cell? ((⟨g,0,none⟩:Addr).add j)=some (.int .u8 x.toNat)):
  Calls Tryz.prog 169 #[.pointer (some ⟨b,0,none⟩)] w fun e w'=>e=.returned (.string ⟨l.toArray⟩)/\w'=w.drew.freeze ⟨g,0,none⟩ l.length:=by
 have Y:l.length≠0:=by simpa using I
 have mixed:=Tryz.checked.mixed;have c1:w.drew.cell? ⟨b,1,none⟩=some (.slice (some ⟨g,0,none⟩) l.length cap):=by have:w.drew.heap[b]? =some (.cells #[p,.slice (some ⟨g,0,none⟩) l.length cap] 263 (0,0)):=U;rw[Lib.cell_of_heap this];rfl
 have Z:(Builtin.unsafeSliceData_ #[22] 325 #[.slice (some ⟨g,0,none⟩) l.length cap]).run Tryz.prog w.drew=.ok (.pointer (some ⟨g,0,none⟩)) w.drew:=
  Lib.run_unsafeSliceData_row _ _ _ _ _ _ oM
 have hUS:(Builtin.unsafeString_ #[325,3] 9 #[.pointer (some ⟨g,0,none⟩),.int .i64 l.length]).run Tryz.prog w.drew=.ok (.string ⟨l.toArray⟩) (w.drew.freeze ⟨g,0,none⟩ l.length):=by refine Lib.run_unsafeString_row w.drew 325 3 9 5 kR kR g B.size (by have S:w.drew.heap[g]? =some (.cells B 5 fr):=hg;simp[World.shape?,S]) l I O J H
 go_enter Tryz.func169,Tryz.ntmps169
 go_wp2
 go_region_o
 all_goals (go_wp2;go_ret;exact⟨rfl,rfl⟩)
theorem zsU(b:Nat)(p:Value)(w:World)(j:w.heap[b]? =some (.cells #[p,.slice none 0 0] 263 (0,0))):
  Calls Tryz.prog 169 #[.pointer (some ⟨b,0,none⟩)] w fun e w'=>e=.returned (.string ⟨#[]⟩)/\w'=w.drew:=by
 have mixed:=Tryz.checked.mixed;have B:(Builtin.unsafeString_ #[325,3] 9 #[.pointer none,.int .i64 0]).run Tryz.prog w.drew=.ok (.string .empty) w.drew:=Lib.run_unsafeString_none w.drew _ _ _ _;have I:w.drew.cell? ⟨b,1,none⟩=some (.slice none 0 0):=by have:w.drew.heap[b]? =some (.cells #[p,.slice none 0 0] 263 (0,0)):=j;rw[Lib.cell_of_heap this];rfl
 have H:(Builtin.unsafeSliceData_ #[22] 325 #[.slice none 0 0]).run Tryz.prog w.drew=.ok (.pointer none) w.drew:=rfl
 go_enter Tryz.func169,Tryz.ntmps169
 go_wp2
 go_region_o
 all_goals (go_wp2;go_ret;exact⟨rfl,rfl⟩)
theorem zwt(b g cap:Nat)(p:Value)(w:World)(j:cap≠0)(B:w.heap[b]? =some (.cells #[p,.slice (some ⟨g,0,none⟩) 0 cap] 263 (0,0))):
  Calls Tryz.prog 169 #[.pointer (some ⟨b,0,none⟩)] w fun e w'=>e=.returned (.string ⟨#[]⟩)/\w'=w.drew:=by
 have mixed:=Tryz.checked.mixed;have I:(Builtin.unsafeString_ #[325,3] 9 #[.pointer (some ⟨g,0,none⟩),.int .i64 0]).run Tryz.prog w.drew=.ok (.string .empty) w.drew:=Lib.run_unsafeString_none w.drew _ _ _ _;have J:w.drew.cell? ⟨b,1,none⟩=some (.slice (some ⟨g,0,none⟩) 0 cap):=by have:w.drew.heap[b]? =some (.cells #[p,.slice (some ⟨g,0,none⟩) 0 cap] 263 (0,0)):=B;rw[Lib.cell_of_heap this];rfl
 have H:(Builtin.unsafeSliceData_ #[22] 325 #[.slice (some ⟨g,0,none⟩) 0 cap]).run Tryz.prog w.drew=.ok (.pointer (some ⟨g,0,none⟩)) w.drew:=
  Lib.run_unsafeSliceData_row _ _ _ _ _ _ j
 clear j
 go_enter Tryz.func169,Tryz.ntmps169
 go_wp2
 go_region_o
 all_goals (go_wp2;go_ret;exact⟨rfl,rfl⟩)
theorem zqr(b g:Nat)(p:Value)(j:Array Value)(fr:Nat×Nat)(w:World)(B:w.heap[b]? =some (.cells #[p,.slice (some ⟨g,0,none⟩) 0 0] 263 (0,0)))(U:w.heap[g]? =some (.cells j 5 fr)):
  Calls Tryz.prog 169 #[.pointer (some ⟨b,0,none⟩)] w fun e w'=>e=.returned (.string ⟨#[]⟩)/\Vc.Keeps [] w w':=by
 have mixed:=Tryz.checked.mixed;have O:∀W q,(Builtin.unsafeString_ #[325,3] 9 #[.pointer q,.int .i64 0]).run Tryz.prog W=.ok (.string .empty) W:=fun W q=>Lib.run_unsafeString_none W _ _ _ _
 have H:b<w.heap.size:=(Array.getElem?_eq_some_iff.1 B).1;have S:w.drew.cell? ⟨b,1,none⟩=some (.slice (some ⟨g,0,none⟩) 0 0):=by have:w.drew.heap[b]? =some (.cells #[p,.slice (some ⟨g,0,none⟩) 0 0] 263 (0,0)):=B;rw[Lib.cell_of_heap this];rfl
 have J:(Builtin.unsafeSliceData_ #[22] 325 #[.slice (some ⟨g,0,none⟩) 0 0]).run Tryz.prog w.drew=.ok (.pointer (some ⟨w.drew.heap.size,0,none⟩)) (w.drew.alloc (.view ⟨g,0,none⟩ 5)):=
  Lib.run_unsafeSliceData_zero w.drew _ _ 5 kR ⟨g,0,none⟩ 0 (5,j.size) (by have I:w.drew.heap[g]? =some (.cells j 5 fr):=U;simp[World.shape?,I])
 have c2:(w.drew.alloc (.view ⟨g,0,none⟩ 5)).cell? ⟨b,1,none⟩=some (.slice (some ⟨g,0,none⟩) 0 0):=by have:(w.drew.alloc (.view ⟨g,0,none⟩ 5)).heap[b]? =_:=(Lib.alloc_old w.drew _ b H).trans B;rw[Lib.cell_of_heap this];rfl
 have c3:(w.alloc (.view ⟨g,0,none⟩ 5)).drew.cell? ⟨b,1,none⟩=some (.slice (some ⟨g,0,none⟩) 0 0):=c2;have Y:w.cell? ⟨b,1,none⟩=some (.slice (some ⟨g,0,none⟩) 0 0):=S
 go_enter Tryz.func169,Tryz.ntmps169
 go_wp2
 go_region_o
 all_goals (go_wp2;go_ret;exact⟨rfl,.of_below ((Below.drew (Below.refl _ w)).alloc (mH _) _)⟩)
theorem zEo{R:Ro}{G:List Res}{w w':World}{v:AV}{l:uAU}{r1:Res}(W:WRel R G [some (.cells 263 [.ptr 0 0,v]),some (.bytes 5 l)] w)(U:G[1]? =some r1)(k:Keeps r1.fp w w'):
  WRel R G [some (.cells 263 [.ptr 0 0,.undef]),none] w'/\Since ⟨R,Am.look G [some (.cells 263 [.ptr 0 0,v]),some (.bytes 5 l)],fpsAll G [some (.cells 263 [.ptr 0 0,v]),some (.bytes 5 l)],w,2⟩ R G [some (.cells 263 [.ptr 0 0,.undef]),none] w':=by
 have F:=XC W;obtain⟨r0,H,hlk0,S,I,cs,Y,hrel⟩:=F.look_live (i:=0) rfl;have two:∀{h:Heap}{i:Nat},h.length=2->i∉[0,1]->¬live h i:=fun O hi hlv=>by have:=jr hlv;simp at hi;omega
 have B:¬live [some (.cells 263 [.ptr 0 0,.undef]),none] 1:=fun⟨o,ho⟩=>by simp[hget]at ho
 refine yY (G':=G) (h':=[some (.cells 263 [.ptr 0 0,.undef]),none]) (A:=[0,1]) (Fr:=fun _=>False) F.wrel F.since k
  (fun b hb=>.inr ⟨1,r1,sI,⟨_,rfl⟩,U,hb⟩) (fun _ h=>h.elim) (by simpa using W.len) sI (fun i hi O=>(two rfl hi O).elim)
  (fun i o hi ho=>(two rfl hi ⟨o,ho⟩).elim) (fun _ _ h=>h) (fun b o h1 h2=>by rw[h1]at h2;cases h2)
  (fun i o r hi ho hr=>?_) (fun i j ri rj hij hi hj hli hlj=>?_) (fun i hi Z O=>?_)
 ·rcases nB.1 hi with rfl|hi
  ·have ho:some (AO.cells 263 [.ptr 0 0,.undef])=some o:=ho;cases ho;rw[H]at hr;cases hr;obtain⟨c0,cr,rfl,⟨f,hf,hfv,rfl⟩,c1,cr1,rfl,h1,J⟩:=hrel;have J:cr1=[]:=J;subst J;rw[hlk0]at hf;cases hf;refine⟨⟨S,I,[.pointer (some ⟨r0.b,0,none⟩),c1],?_,_,_,rfl,⟨_,zU (o:=.cells 263 [.ptr 0 0,.undef]) rfl H,S,rfl⟩,_,_,rfl,trivial,rfl⟩,fun b hb=>⟨W.sepR 0 r0 ⟨_,rfl⟩ H b hb,.inr (.inl ⟨0,r0,sI,⟨_,rfl⟩,H,hb⟩)⟩⟩;rw[k.block r0.b (ja Y) (fun hm=>W.sep 0 1 r0 r1 sI ⟨_,rfl⟩ ⟨_,rfl⟩ H U r0.b (by rw[I];simp) hm)];exact Y
  ·have hi:i=1:=by simpa using hi
   subst hi;exact (B ⟨o,ho⟩).elim
 ·have z:∀x,x∈[0,1]->live [some (.cells 263 [.ptr 0 0,.undef]),none] x->x=0:=by
   intro x hx O;rcases nB.1 hx with rfl|hx
   ·rfl
   ·have hx:x=1:=by simpa using hx
    subst hx;exact (B O).elim
  exact (hij ((z i hi hli).trans (z j hj hlj).symm)).elim
 ·rcases nB.1 Z with rfl|Z
  ·show Am.look G _ 0=Am.look G _ 0;rw[zU (o:=.cells 263 [.ptr 0 0,.undef]) rfl H,zU (o:=.cells 263 [.ptr 0 0,v]) rfl H];rfl
  ·have Z:i=1:=by simpa using Z
   subst Z;exact (B O).elim
theorem zzp{b:Nat}{p V:Value}{l:uAU}{r:Res}{w:World}(B:w.heap[b]? =some (.cells #[p,V] 263 (0,0)))(I:RowAt w r 5 1 l.length (fun cs=>cs=l.map u8V))(hV:V=yD r l.length)(hc:r.cap<=maxLen\/l.length<=maxLen):
  Calls Tryz.prog 169 #[.pointer (some ⟨b,0,none⟩)] w fun e w'=>e=.returned (.string (bs l))/\Keeps r.fp w w':=by
 subst hV;have Z:l.length<=9223372036854775807:=by
  rcases I with⟨_,h0,_⟩|⟨_,_,hle,_⟩
  ·omega
  ·rcases hc with hc|hc
   ·exact nD hle hc
   ·exact hc
 rcases I with⟨g1,g2,g3,U⟩|⟨g1,g2,g3,cs,tl,fr,U,g5,g6,g7,g8⟩
 ·have Y:l=[]:=nF.1 g2;subst Y;rw[show yD r ([]:uAU).length=.slice none 0 0 by simp[yD,g1]]at B;exact (zsU b p w B).mono fun e w' ⟨O,S⟩=>⟨O,by subst S;exact Keeps.drawn w _⟩
 ·rw[show yD r l.length=.slice (some ⟨r.b,0,none⟩) l.length r.cap by simp[yD,g1]]at B;rw[g2];have hd:Keeps [r.b] w w.drew:=Keeps.drawn w _;by_cases Y:l=[]
  ·subst Y;by_cases H:r.cap=0
   ·rw[H]at B;exact (zqr b r.b p _ fr w B U).mono fun e w' ⟨O,S⟩=>⟨O,S.wide⟩
   ·exact (zwt b r.b r.cap p w H B).mono fun e w' ⟨O,S⟩=>⟨O,by subst S;exact hd⟩
  ·have hg6:cs.length=l.length:=by rw[g5];simp
   refine(zzo b r.b r.cap p _ fr l w Y B U g3 (by simp;omega) Z (fun j x hj=>?_)).mono fun e w' ⟨O,S⟩=>⟨O,?_⟩
   ·rw[XD,uAn];have hjl:j<l.length:=(mG.1 hj).1;simp only[World.cell?,U];have:(cs++tl).toArray[j]? =some (u8V x):=by simp only[uAI];rw[nH oM,g5,nK,hj];rfl
    simpa[u8V]using this
   ·subst S;refine hd.trans ⟨by unfold World.freeze;split<;>rfl,by unfold World.freeze;split<;>rfl,by unfold World.freeze;split<;>rfl,by unfold World.freeze;split<;>simp,fun k hk J=>?_⟩;have J:k≠r.b:=by simpa using J
    unfold World.freeze;split
    ·rfl
    ·simp[Array.getElem?_modify,Ne.symm J]
def Vu(l:uAU):Bool:=decide (l.length<=9223372036854775807)
def ziK(vs:List AV)(h:Heap):Option (Bool×uAU):=match vs,h with
 |[.ptr 0 0],[some (.cells 263 [.ptr 0 0,.rw 1]),some (.bytes 5 l)]=>some (false,l)
 |[.ptr 0 0],[some (.cells 263 [.ptr 0 0,.rwp 1]),some (.bytes 5 l)]=>some (true,l)
 |_,_=>none
def zpV(_:Nat):Con:=Con6.c ⟨169,Bool×uAU,uAU,ziK,fun x=>chk (Vu x.2) (some x.2),fun _ l=>⟨.str l,[some (.cells 263 [.ptr 0 0,.undef]),none]⟩⟩
theorem KA(N:Nat):SoundC Tryz.prog GP (zpV N):=by
 intro Z h x r J U;have J:ziK Z h=some x:=J;have U:chk (Vu x.2) (some x.2)=some r:=U;obtain⟨hm,U⟩:=zm U;cases U;have hm:=of_decide_eq_true hm;have key:∀{v:AV}{l:uAU},l.length<=9223372036854775807->(∀(L:Lk)(R:Ro)(j:Res)(V:Value),L 1=some ⟨j.b,j.virt,j.cap,l.length⟩->Rel L R v V->V=yD j l.length)->
   ∀R G w vs,GP R->WRel R G [some (.cells 263 [.ptr 0 0,v]),some (.bytes 5 l)] w->RelL (Am.look G [some (.cells 263 [.ptr 0 0,v]),some (.bytes 5 l)]) R [.ptr 0 0] vs->
   Calls Tryz.prog 169 vs.toArray w fun e w'=>∃V R' G',e=.returned V/\WRel R' G' [some (.cells 263 [.ptr 0 0,.undef]),none] w'/\
   Since ⟨R,Am.look G [some (.cells 263 [.ptr 0 0,v]),some (.bytes 5 l)],fpsAll G [some (.cells 263 [.ptr 0 0,v]),some (.bytes 5 l)],w,2⟩ R' G' [some (.cells 263 [.ptr 0 0,.undef]),none] w'/\Rel (Am.look G' [some (.cells 263 [.ptr 0 0,.undef]),none]) R' (.str l) V:=by
  intro v l hlm hv R G w vs hGP W S;have F:=XC W;obtain⟨r0,hr0,hlk0,hv0,hfp0,cs,hcs,hrel⟩:=F.look_live (i:=0) rfl;obtain⟨j,hr1,hlk1,H⟩:=F.look_live (i:=1) rfl;obtain⟨u,us,rfl,⟨f,B,_,rfl⟩,I⟩:=S;have I:us=[]:=I;subst I;rw[hlk0]at B;cases B;obtain⟨c0,cr,rfl,h0,c1,cr1,rfl,h1,O⟩:=hrel;have O:cr1=[]:=O;subst O;have Y:=hv _ _ j _ hlk1 h1;simp only[ObjRel]at H;refine(zzp hcs H Y (.inr hlm)).mono fun e w' ⟨he,hk⟩=>?_
  obtain⟨g1,g2⟩:=zEo W hr1 hk;exact⟨_,R,G,he,g1,g2,rfl⟩
 unfold ziK at J;split at J
 ·cases J;refine⟨jk kR,key hm fun L R j V hL Y=>?_⟩;obtain⟨f,B,h2,h3⟩:=Y;rw[hL]at B;cases B;unfold yD;cases hv:j.virt with
  |true=>simp only[if_true];exact (h2 hv).2
  |false=>simp only[nA,if_false];exact h3 hv
 ·cases J;refine⟨jk kR,key hm fun L R j V hL Y=>?_⟩;obtain⟨f,B,h2,_,h3⟩:=Y;rw[hL]at B;cases B;unfold yD;rw[if_neg (by simpa using h2)];exact h3
 ·cases J
def zei(vs:List AV)(h:Heap):Option Unit:=match vs,h with
 |[.ptr 0 0],[some (.cells 263 [.nilp,.nils])]=>some ()
 |_,_=>none
def zkO(_:Nat):Con:=Con6.c ⟨169,Unit,Unit,zei,fun _=>some (),fun _ _=>⟨.str [],[some (.cells 263 [.nilp,.nils])]⟩⟩
theorem ze2(N:Nat):SoundC Tryz.prog GP (zkO N):=by
 intro J h x r I hs;have I:zei J h=some x:=I;unfold zei at I;split at I
 ·cases I;refine⟨jk kR,fun R G w vs hGP W H=>?_⟩;have F:=XC W;obtain⟨r0,hr0,S,hv0,hfp0,cs,Y,O⟩:=F.look_live (i:=0) rfl;obtain⟨u,us,rfl,⟨f,hf,_,rfl⟩,j⟩:=H;have j:us=[]:=j;subst j;rw[S]at hf;cases hf;obtain⟨c0,cr,rfl,h0,c1,Z,rfl,U,B⟩:=O;have B:Z=[]:=B;subst B;have U:c1=.slice none 0 0:=U;subst U;refine(zsU r0.b c0 w Y).mono fun e w' ⟨he,hw⟩=>?_
  subst hw;have F':=F.keep (Keeps.drawn w (w.drew).drawn:Keeps [] w w.drew);exact⟨_,R,G,he,F'.wrel,F'.since,rfl⟩
 ·cases I
def zE1(b n:Nat)(w:World)(e:Ending)(w':World):Prop:=e=.returned (.tuple #[])/\Keeps [b] w w'/\∃g cap cs,w.heap.size<=g/\n<=cap/\cs.size=cap/\w'.heap[b]? =some (.cells #[.pointer (some ⟨b,0,none⟩),.slice (some ⟨g,0,none⟩) 0 cap] 263 (0,0))/\w'.heap[g]? =some (.cells cs 5 (0,0))
theorem zBP{b n:Nat}{w:World}{cs:Array Value}(j:w.heap[b]? =some (.cells #[.pointer (some ⟨b,0,none⟩),.slice none 0 0] 263 (0,0)))(B:n<=cs.size):
  zE1 b n w (.returned (.tuple #[])) ((w.setCell ⟨b,1,none⟩ (.slice (some ⟨w.heap.size,0,none⟩) 0 cs.size)).alloc (.cells cs 5)).drew.drew.drew:=by
 have J:b<w.heap.size:=ja j;obtain⟨s1,H⟩:=Vb (o:=1) (v:=.slice (some ⟨w.heap.size,0,none⟩) 0 cs.size) (cs:=[.pointer (some ⟨b,0,none⟩),.slice none 0 0]) j;have I:(w.setCell ⟨b,1,none⟩ (.slice (some ⟨w.heap.size,0,none⟩) 0 cs.size)).heap.size=w.heap.size:=by simp[World.setCell]
 generalize w.setCell ⟨b,1,none⟩ (.slice (some ⟨w.heap.size,0,none⟩) 0 cs.size)=W at s1 H I;have kd:Keeps [b] W (W.alloc (.cells cs 5)).drew.drew.drew:=(Keeps.of_below (((((Below.refl _ W).alloc (mH _) _).drew).drew).drew)).mono sI;refine⟨rfl,H.trans kd,w.heap.size,cs.size,cs,mH _,B,rfl,?_,?_⟩
 ·exact (Lib.alloc_old W _ b oM).trans s1
 ·rw[<-I];exact heap_alloc_new W _
theorem zx8(b n:Nat)(w:World)(B:w.heap[b]? =some (.cells #[.pointer (some ⟨b,0,none⟩),.slice none 0 0] 263 (0,0)))(hn:n<=281474976710656):
  Calls Tryz.prog 236 #[.pointer (some ⟨b,0,none⟩),.int .i64 n] w (zE1 b n w):=by
 have mixed:=Tryz.checked.mixed;have I:Tryz.prog.underlying 22=some (.slice 5):=kR
 obtain⟨cs,J,Y,hmax⟩:=Lib.run_makeNoZero (P:=Tryz.prog) w.drew #[3] 22 5 I n hn;have hw:IntKind.i64.wrap (IntKind.i64.wrap 0+(n:Int))=n:=by rw[IntKind.wrap_i64,IntKind.wrap_i64];omega
 have hcall:(callFunc 150 #[.int .i64 (IntKind.i64.wrap (IntKind.i64.wrap 0+(n:Int)))]).run Tryz.prog w.drew=.ok (.value (.slice (some ⟨w.drew.heap.size,0,none⟩) n cs.size)) (w.drew.drew.drew.alloc (.cells cs 5)):=by rw[hw,run_callFunc_extern Tryz.func150 kR kR kR (e:=Extern.BytealgMakeNoZero.makeNoZero #[3] #[22]) kR,J];rfl
 have Z:b<w.heap.size:=ja B;have c1:w.drew.cell? ⟨b,1,none⟩=some (.slice none 0 0):=by have:w.drew.heap[b]? =_:=B;rw[Lib.cell_of_heap this];rfl
 have O:(w.alloc (.cells cs 5)).heap[b]? =some (.cells #[.pointer (some ⟨b,0,none⟩),.slice none 0 0] 263 (0,0)):=(Lib.alloc_old w _ b Z).trans B;have c2:(w.alloc (.cells cs 5)).cell? ⟨b,1,none⟩=some (.slice none 0 0):=by rw[Lib.cell_of_heap O];rfl
 have f2:(w.alloc (.cells cs 5)).frozen? ⟨b,1,none⟩=false:=Lib.frozen_of_heap O 1;have U:∃j,Tryz.prog.info? 5=some j/\j.size=1:=⟨_,rfl,kR⟩
 obtain⟨j,hj,hjs⟩:=U;have S:∀W:World,(Builtin.copy_ #[22,22] 3 #[.slice (some ⟨w.heap.size,0,none⟩) 0 cs.size,.slice none 0 0]).run Tryz.prog W=.ok (goInt 0) W:=
  fun W=>run_copy_none W 22 22 3 5 _ _ 0 cs.size 0 0 I kR rfl
 have H:=zBP (w:=w) B Y;clear hw hj hjs
 go_enter Tryz.func236,Tryz.ntmps236
 go_wp2
 go_region_o
 all_goals (go_wp2;go_end0;exact H)
def zej(vs:List AV)(h:Heap):Option Int:=match vs,h with
 |[.ptr 0 0,.int .i64 n],[some (.cells 263 [.ptr 0 0,.nils])]=>some n
 |_,_=>none
def XS(n:Int):Bool:=match n with
 |.ofNat m=>Nat.ble 1 m&&Nat.ble m 281474976710656
 |_=>false
theorem zqK{n:Int}(h:XS n=true):1<=n/\n<=281474976710656:=by
 unfold XS at h;split at h
 ·simp only[mF,uAQ]at h;simp only[uAT];omega
 ·cases h
def zkP(_:Nat):Con:=Con6.c ⟨236,Int,Unit,zej,fun n=>chk (XS n) (some ()),fun _ _=>⟨.tup [],[some (.cells 263 [.ptr 0 0,.rwp 1]),some (.bytes 5 [])]⟩⟩
theorem ze3(N:Nat):SoundC Tryz.prog GP (zkP N):=by
 intro args h (n:Int) r Z hs;have Z:zej args h=some n:=Z;have hs:chk (XS n) (some ())=some r:=hs;obtain⟨hm,hs⟩:=zm hs;obtain⟨hm1,hm2⟩:=zqK hm;unfold zej at Z;split at Z
 ·cases Z;refine⟨jk kR,fun R G w vs hGP W U=>?_⟩;have F:=XC W;obtain⟨r0,I,J,hv0,H,cs,hcs,hrel⟩:=F.look_live (i:=0) rfl;obtain⟨u,us,rfl,⟨f,hf,_,rfl⟩,u2,us2,rfl,rfl,O⟩:=U;have O:us2=[]:=O;subst O;rw[J]at hf;cases hf;obtain⟨c0,cr,rfl,⟨f,hf,_,rfl⟩,c1,cr1,rfl,h1,S⟩:=hrel;have S:cr1=[]:=S;subst S;have h1:c1=.slice none 0 0:=h1;subst h1;rw[J]at hf;cases hf;obtain⟨k,rfl⟩:∃k:Nat,n=k:=⟨n.toNat,oM⟩
  refine(zx8 r0.b k w hcs oM).mono fun e w' ⟨he,kp,g,cap,cells,hg,hcap,hsz,hb',hg'⟩=>?_
  have hlt:r0.b<w.heap.size:=ja hcs;have hG:G.length=1:=by simpa using W.len
  have hG0:∀r',[r0,⟨g,false,cap,[g]⟩][0]? =some r'->r'=r0:=fun r' h=>by simpa using h.symm
  have l0:Am.look [r0,(⟨g,false,cap,[g]⟩:Res)] [some (.cells 263 [.ptr 0 0,.rwp 1]),some (.bytes 5 [])] 0=some ⟨r0.b,r0.virt,r0.cap,0⟩:=rfl;have l1:Am.look [r0,(⟨g,false,cap,[g]⟩:Res)] [some (.cells 263 [.ptr 0 0,.rwp 1]),some (.bytes 5 [])] 1=some ⟨g,false,cap,0⟩:=rfl;have two:∀{h:Heap}{i:Nat},h.length=2->i∉[0,1]->¬live h i:=fun hl hi hlv=>by have:=jr hlv;simp at hi;omega
  obtain⟨s1,s2⟩:=yY (R':=R) (G':=[r0,⟨g,false,cap,[g]⟩]) (h':=[some (.cells 263 [.ptr 0 0,.rwp 1]),some (.bytes 5 [])]) (A:=[0,1]) (Fr:=fun _=>False) F.wrel F.since kp
   (fun b B=>.inr ⟨0,r0,sI,⟨_,rfl⟩,I,by rw[H];exact B⟩) (fun _ h=>h.elim) rfl sI (fun i hi hl=>(two rfl hi hl).elim)
   (fun i o hi ho=>(two rfl hi ⟨o,ho⟩).elim) (fun _ _ h=>h) (fun b o h1 h2=>by rw[h1]at h2;cases h2)
   (fun i o r hi ho Y=>by
    rcases nB.1 hi with rfl|hi
    ·have ho:some (AO.cells 263 [.ptr 0 0,.rwp 1])=some o:=ho;cases ho;have Y:=hG0 _ Y;subst Y;exact⟨⟨hv0,H,[.pointer (some ⟨r.b,0,none⟩),.slice (some ⟨g,0,none⟩) 0 cap],hb',_,_,rfl,⟨_,l0,hv0,rfl⟩,_,_,rfl,⟨_,l1,rfl,by show 1<=cap;omega,rfl⟩,rfl⟩,
      fun b B=>⟨W.sepR 0 r ⟨_,rfl⟩ I b B,.inr (.inl ⟨0,r,sI,⟨_,rfl⟩,I,B⟩)⟩⟩
    ·have hi:i=1:=by simpa using hi
     subst hi;have ho:some (AO.bytes 5 [])=some o:=ho;cases ho;have Y:some (⟨g,false,cap,[g]⟩:Res)=some r:=Y;cases Y;refine⟨.inr ⟨rfl,rfl,uAm _,[],cells.toList,(0,0),by simpa using hg',rfl,rfl,by have:=hsz;simp;omega,mH _,fun j _ h2=>oM⟩,fun b B=>?_⟩;have B:b=g:=by simpa using B
     subst B;refine⟨?_,.inr (.inr hg)⟩;cases hrb:R b with
     |none=>rfl
     |some ob=>have:=ja (W.ro _ _ hrb);omega)
   (fun i j ri rj hij hi hj hli hlj hri hrj b B=>by
    have z:∀x,x∈[0,1]->x=0\/x=1:=sI
    have f0:∀r,[r0,(⟨g,false,cap,[g]⟩:Res)][0]? =some r->r.fp=[r0.b]:=fun r h=>by have h:=hG0 _ h;subst h;exact H
    have f1:∀r,[r0,(⟨g,false,cap,[g]⟩:Res)][1]? =some r->r.fp=[g]:=fun r h=>by have h:some (⟨g,false,cap,[g]⟩:Res)=some r:=h;cases h;rfl
    rcases z i hi with rfl|rfl<;>rcases z j hj with rfl|rfl
    ·exact (hij rfl).elim
    ·rw[f0 _ hri]at B;rw[f1 _ hrj];simp only[mL]at B⊢;omega
    ·rw[f1 _ hri]at B;rw[f0 _ hrj];simp only[mL]at B⊢;omega
    ·exact (hij rfl).elim)
   (fun i hi hA hl=>by
    have hi:i<1:=hi;have hi:i=0:=oM
    subst hi;show Am.look _ _ 0=Am.look G _ 0;rw[l0,zU (o:=.cells 263 [.ptr 0 0,.nils]) rfl I];rfl)
  exact⟨_,R,_,he,s1,s2,⟨[],rfl,rfl⟩⟩
 ·cases Z
end Go.Proofs.C06
