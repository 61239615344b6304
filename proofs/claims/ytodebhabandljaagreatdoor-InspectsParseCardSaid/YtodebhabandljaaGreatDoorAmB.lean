/-
  A part of the proof of the laws.
-/
import Derived.Test.YtodebhabandljaaGreatDoorAm18
import Derived.Test.YtodebhabandljaaGreatDoorAm27
import Derived.Test.YtodebhabandljaaGreatDoorProg
import Derived.Test.YtodebhabandljaaGreatDoorChecked
import Derived.Test.YtodebhabandljaaGreatDoorShelf
import Derived.Shelf.Strings.SlTrimAscii
import Derived.Shelf.Strings.Builder1
import Derived.WalkKit
import Derived.Shelf.Strings.Builder2
section
set_option maxHeartbeats 4000000
set_option maxRecDepth 100000
namespace Go.Proofs.C06
open Go Go.RowKit Go.Vc Go.Am
def nG:Nat:=13
structure Gd(w:World):Prop where
 maxLen:∃m,w.cell? ⟨1,0,none⟩=some (.int .i64 m)
 pow:Lib.TabIs Tryz.prog w "internal/strconv.uint64pow10" .u64 Lib.pow10Tab
def gl:Glob:=[(3,.agg [.int .u8 36,.int .u8 43,.int .u8 45])]
def GP(R:Ro):Prop:=(∀w:World,(∀b o,R b=some o->w.heap[b]? =some o)->Gd w)/\GlobOK gl R
theorem gd(R:Ro)(w:World)(h:GP R)(j:∀b o,R b=some o->w.heap[b]? =some o):Gd w:=h.1 w j
theorem zAA(R:Ro)(h:GP R):GlobOK gl R:=h.2
theorem zq6:Stays GP:=fun R R' y h=>⟨fun w B=>h.1 w fun b o H=>B b o (y b o H),fun g=>zj y _ _ (fun i j=>by rw[Ja]at j;cases j) (h.2 g)⟩
theorem mixed:Tryz.prog.follows .mixedOrders=true:=Tryz.checked.mixed
theorem bas:Bas Tryz.prog GP gl:=⟨mixed,zAA,zq6⟩
def jE(vs:List AV)(h:Heap):Option (uAS×uAS):=match vs,h with
 |[.str y,.str j],[]=>some (y,j)
 |_,_=>none
theorem yC(vs:List AV)(h:Heap)(x:uAS×uAS)(j:jE vs h=some x):vs=[.str x.1,.str x.2]/\h=[]:=by unfold jE at j;split at j<;>cases j;exact⟨rfl,rfl⟩
def QK(_:Nat):Con:=Con6.c ⟨113,uAS×uAS,Bool,jE,fun x=>zmN x.1 x.2,fun _ r=>⟨.bool r,[]⟩⟩
theorem zaU(N:Nat):SoundC Tryz.prog GP (QK N):=zZ gd (fun x=>[.str x.1,.str x.2]) (fun x=>[.string (bs x.1),.string (bs x.2)]) (fun r=>.bool r) (by kernel_rfl) yC (fun _=>rfl) (fun _=>rfl) fun x r w B h=>by cases h;exact (Tryz.strings_HasPrefix (bs x.1) (bs x.2) w).mono fun e w' ⟨y,j⟩=>⟨y,.of_eq j⟩
def QN(_:Nat):Con:=Con6.c ⟨134,uAS×uAS,uAS×Bool,jE,fun x=>zmR x.1 x.2,fun _ r=>⟨.tup [.str r.1,.bool r.2],[]⟩⟩
theorem zaX(N:Nat):SoundC Tryz.prog GP (QN N):=zZ gd (fun x=>[.str x.1,.str x.2]) (fun x=>[.string (bs x.1),.string (bs x.2)]) (fun r=>.tuple #[.string (bs r.1),.bool r.2]) (by kernel_rfl) yC (fun _=>rfl) (fun _=>rfl) fun x r w B h=>by cases h;exact (Tryz.strings_CutPrefix (bs x.1) (bs x.2) w).mono fun e w' ⟨y,j⟩=>⟨y,.of_eq j⟩
def QM(_:Nat):Con:=Con6.c ⟨228,uAS×uAS,uAS×Bool,jE,fun x=>zmQ x.1 x.2,fun _ r=>⟨.tup [.str r.1,.bool r.2],[]⟩⟩
theorem zaW(N:Nat):SoundC Tryz.prog GP (QM N):=zZ gd (fun x=>[.str x.1,.str x.2]) (fun x=>[.string (bs x.1),.string (bs x.2)]) (fun r=>.tuple #[.string (bs r.1),.bool r.2]) (by kernel_rfl) yC (fun _=>rfl) (fun _=>rfl) fun x r w B h=>by obtain⟨hc,h⟩:=zm h;cases h;exact (Tryz.strings_CutSuffix (bs x.1) (bs x.2) w (by rw[jh];exact ZE hc)).mono fun e w' ⟨y,j⟩=>⟨y,.of_eq j⟩
def Y0(_:Nat):Con:=Con6.c ⟨102,uAS×uAS,uAS,jE,fun x=>zkQ x.1 x.2,fun _ r=>⟨.str r,[]⟩⟩
theorem WJ(N:Nat):SoundC Tryz.prog GP (Y0 N):=zZ gd (fun x=>[.str x.1,.str x.2]) (fun x=>[.string (bs x.1),.string (bs x.2)]) (fun r=>.string (bs r)) (by kernel_rfl) yC (fun _=>rfl) (fun _=>rfl) fun x r w B h=>by obtain⟨hc,h⟩:=zm h;cases h;exact (Tryz.strings_TrimSuffix (bs x.1) (bs x.2) w (by rw[jh];exact ZE hc)).mono fun e w' ⟨y,j⟩=>⟨y,.of_eq j⟩
def Y1(_:Nat):Con:=Con6.c ⟨72,uAS×uAS,uAS,jE,fun x=>zkR x.1 x.2,fun _ r=>⟨.str r,[]⟩⟩
theorem WK(N:Nat):SoundC Tryz.prog GP (Y1 N):=zZ gd (fun x=>[.str x.1,.str x.2]) (fun x=>[.string (bs x.1),.string (bs x.2)]) (fun r=>.string (bs r)) (by kernel_rfl) yC (fun _=>rfl) (fun _=>rfl) fun x r w B h=>by cases h;exact (Tryz.strings_TrimPrefix (bs x.1) (bs x.2) w).mono fun e w' ⟨y,j⟩=>⟨y,.of_eq j⟩
def zf3(vs:List AV)(h:Heap):Option (uAS×Int):=match vs,h with
 |[.str y,.int .u8 j],[]=>some (y,j)
 |_,_=>none
theorem zy7(vs:List AV)(h:Heap)(x:uAS×Int)(j:zf3 vs h=some x):vs=[.str x.1,.int .u8 x.2]/\h=[]:=by unfold zf3 at j;split at j<;>cases j;exact⟨rfl,rfl⟩
def QI(_:Nat):Con:=Con6.c ⟨267,uAS×Int,Int,zf3,fun x=>zfb x.1 x.2,fun _ r=>⟨.int .i64 r,[]⟩⟩
theorem zaS(N:Nat):SoundC Tryz.prog GP (QI N):=zZ gd (fun x=>[.str x.1,.int .u8 x.2]) (fun x=>[.string (bs x.1),.int .u8 x.2]) (fun r=>.int .i64 r) (by kernel_rfl) zy7 (fun _=>rfl) (fun _=>rfl) fun x r w B h=>by cases h;exact (Tryz.strings_IndexByte (bs x.1) x.2 w).mono fun e w' ⟨y,j⟩=>⟨y,.of_eq j⟩
def zkU(_:Nat):Con:=Con6.c ⟨73,uAS×uAS,uAS×uAS×Bool,jE,fun x=>zBK x.1 x.2,fun _ r=>⟨.tup [.str r.1,.str r.2.1,.bool r.2.2],[]⟩⟩
theorem zmP(N:Nat):SoundC Tryz.prog GP (zkU N):=zZ gd (fun x=>[.str x.1,.str x.2]) (fun x=>[.string (bs x.1),.string (bs x.2)]) (fun r=>.tuple #[.string (bs r.1),.string (bs r.2.1),.bool r.2.2]) (by kernel_rfl) yC (fun _=>rfl) (fun _=>rfl) fun x r w y h=>by obtain⟨hc,h⟩:=zm h;cases h;obtain⟨m,j⟩:=y.maxLen;exact (Tryz.strings_Cut (bs x.1) (bs x.2) m w (by rw[jh];exact ZE hc) j).mono fun e w' ⟨H,n,B⟩=>⟨H,B▸Keeps.drewN _ _⟩
def zfd(_:Nat):Con:=Con6.c ⟨167,uAS×uAS,Int,jE,fun x=>zAt x.1 x.2,fun _ r=>⟨.int .i64 r,[]⟩⟩
theorem ziV(N:Nat):SoundC Tryz.prog GP (zfd N):=zZ gd (fun x=>[.str x.1,.str x.2]) (fun x=>[.string (bs x.1),.string (bs x.2)]) (fun r=>.int .i64 r) (by kernel_rfl) yC (fun _=>rfl) (fun _=>rfl) fun x r w B h=>by
 obtain⟨s,p⟩:=x
 match p,h with
 |[c],h=>cases h;exact (Tryz.strings_Count_one (bs s) c w).mono fun e w' ⟨y,j⟩=>⟨y,.of_eq j⟩
def Kb(_:Nat):Con:=Con6.c ⟨260,uAS×uAS,Bool,jE,fun x=>zp9 x.1 x.2,fun _ r=>⟨.bool r,[]⟩⟩
theorem zb9(N:Nat):SoundC Tryz.prog GP (Kb N):=zZ gd (fun x=>[.str x.1,.str x.2]) (fun x=>[.string (bs x.1),.string (bs x.2)]) (fun r=>.bool r) (by kernel_rfl) yC (fun _=>rfl) (fun _=>rfl) fun x r w B h=>by
 obtain⟨s,p⟩:=x
 match p,h with
 |[c],h=>cases h;exact (Tryz.strings_Contains_one (bs s) c w).mono fun e w' ⟨y,j⟩=>⟨y,.of_eq j⟩
def Ka(_:Nat):Con:=Con6.c ⟨155,uAS×uAS,uAS,jE,fun x=>zgQ x.1 x.2,fun _ r=>⟨.str r,[]⟩⟩
theorem zb8(N:Nat):SoundC Tryz.prog GP (Ka N):=zZ gd (fun x=>[.str x.1,.str x.2]) (fun x=>[.string (bs x.1),.string (bs x.2)]) (fun r=>.string (bs r)) (by kernel_rfl) yC (fun _=>rfl) (fun _=>rfl) fun x r w B h=>by obtain⟨hc,h⟩:=zm h;obtain⟨hc,ha⟩:=KY hc;cases h;exact (Any.strings_TrimLeft_laid Tryz.lays161 (by kernel_rfl) (bs x.1) (bs x.2) w (by rw[jh];exact ZE hc) (Xi ha)).mono fun e w' ⟨y,j⟩=>⟨y,.of_below j⟩
def QG(_:Nat):Con:=Con6.c ⟨205,uAS×uAS,uAS,jE,fun x=>zmL x.1 x.2,fun _ r=>⟨.str r,[]⟩⟩
theorem zaP(N:Nat):SoundC Tryz.prog GP (QG N):=zZ gd (fun x=>[.str x.1,.str x.2]) (fun x=>[.string (bs x.1),.string (bs x.2)]) (fun r=>.string (bs r)) (by kernel_rfl) yC (fun _=>rfl) (fun _=>rfl) fun x r w H h=>by obtain⟨hc,h⟩:=zm h;obtain⟨hc,ha⟩:=KY hc;obtain⟨j,ha⟩:=KY ha;cases h;exact (Any.strings_TrimRight_laid Tryz.lays162 (by kernel_rfl) (bs x.1) (bs x.2) w (by rw[jh];exact ZE hc) (by rw[jh];exact ZE j) (Xi ha)).mono fun e w' ⟨B,y⟩=>⟨B,.of_below y⟩
def zgP(_:Nat):Con:=Con6.c ⟨185,uAS×uAS,uAS,jE,fun x=>zt6 x.1 x.2,fun _ r=>⟨.str r,[]⟩⟩
theorem zkP(N:Nat):SoundC Tryz.prog GP (zgP N):=zZ gd (fun x=>[.str x.1,.str x.2]) (fun x=>[.string (bs x.1),.string (bs x.2)]) (fun r=>.string (bs r)) (by kernel_rfl) yC (fun _=>rfl) (fun _=>rfl) fun x r w H h=>by obtain⟨hc,h⟩:=zm h;obtain⟨hc,ha⟩:=KY hc;obtain⟨j,ha⟩:=KY ha;cases h;exact (Any.strings_Trim_laid Tryz.lays160 (by kernel_rfl) (bs x.1) (bs x.2) w (by rw[jh];exact ZE hc) (by rw[jh];exact ZE j) (Xi ha)).mono fun e w' ⟨B,y⟩=>⟨B,.of_below y⟩
def QJ(_:Nat):Con:=Con6.c ⟨176,uAS×uAS,Bool,jE,fun x=>zfc x.1 x.2,fun _ r=>⟨.bool r,[]⟩⟩
theorem zaT(N:Nat):SoundC Tryz.prog GP (QJ N):=zZ gd (fun x=>[.str x.1,.str x.2]) (fun x=>[.string (bs x.1),.string (bs x.2)]) (fun r=>.bool r) (by kernel_rfl) yC (fun _=>rfl) (fun _=>rfl) fun x r w B h=>by obtain⟨hc,h⟩:=zm h;cases h;exact (Tryz.strings_HasSuffix (bs x.1) (bs x.2) w (by rw[jh];exact ZE hc)).mono fun e w' ⟨y,j⟩=>⟨y,.of_eq j⟩
def zf4(vs:List AV)(h:Heap):Option (Int×Int):=match vs,h with
 |[.int .i64 y,.int .i64 j],[]=>some (y,j)
 |_,_=>none
theorem zy8(vs:List AV)(h:Heap)(x:Int×Int)(j:zf4 vs h=some x):vs=[.int .i64 x.1,.int .i64 x.2]/\h=[]:=by unfold zf4 at j;split at j<;>cases j;exact⟨rfl,rfl⟩
def QL(_:Nat):Con:=Con6.c ⟨135,Int×Int,uAS,zf4,fun x=>zmO x.1 x.2,fun _ r=>⟨.str r,[]⟩⟩
theorem zaV(N:Nat):SoundC Tryz.prog GP (QL N):=zZ gd (fun x=>[.int .i64 x.1,.int .i64 x.2]) (fun x=>[.int .i64 x.1,.int .i64 x.2]) (fun r=>.string (bs r)) (by kernel_rfl) zy8 (fun _=>rfl) (fun _=>rfl) fun x r w H h=>by obtain⟨hc,h⟩:=zm h;obtain⟨y,hc⟩:=KY hc;obtain⟨j,B⟩:=KY hc;cases h;obtain⟨n,b⟩:=x;obtain rfl:b=10:=ZE y;exact (Tryz.strconv_FormatInt_10 n (ZE j) (ZE B) w H.pow).mono fun e w' ⟨j,k,I,B⟩=>⟨j,B▸(Keeps.drewN _ _).trans (Keeps.grow _ _)⟩
def zf1(vs:List AV)(h:Heap):Option (uAS×Int):=match vs,h with
 |[.str y,.int .i32 j],[]=>some (y,j)
 |_,_=>none
theorem zy5(vs:List AV)(h:Heap)(x:uAS×Int)(j:zf1 vs h=some x):vs=[.str x.1,.int .i32 x.2]/\h=[]:=by unfold zf1 at j;split at j<;>cases j;exact⟨rfl,rfl⟩
def Jq(_:Nat):Con:=Con6.c ⟨231,uAS×Int,Bool,zf1,fun x=>zga x.1 x.2,fun _ r=>⟨.bool r,[]⟩⟩
theorem X2(N:Nat):SoundC Tryz.prog GP (Jq N):=zZ gd (fun x=>[.str x.1,.int .i32 x.2]) (fun x=>[.string (bs x.1),.int .i32 x.2]) (fun r=>.bool r) (by kernel_rfl) zy5 (fun _=>rfl) (fun _=>rfl) fun x r w B h=>by obtain⟨hc,h⟩:=zm h;obtain⟨y,j⟩:=KY hc;cases h;exact (Tryz.strings_ContainsRune_ascii (bs x.1) x.2 w (ZE y) (ZE j)).mono fun e w' ⟨y,j⟩=>⟨y,.of_eq j⟩
def JV(_:Nat):Con:=Con6.c ⟨226,uAS×uAS,Bool,jE,fun x=>ziW x.1 x.2,fun _ r=>⟨.bool r,[]⟩⟩
theorem KI(N:Nat):SoundC Tryz.prog GP (JV N):=zZ gd (fun x=>[.str x.1,.str x.2]) (fun x=>[.string (bs x.1),.string (bs x.2)]) (fun r=>.bool r) (by kernel_rfl) yC (fun _=>rfl) (fun _=>rfl) fun x r w I h=>by obtain⟨hc,h⟩:=zm h;obtain⟨j,hc⟩:=KY hc;obtain⟨y,hc⟩:=KY hc;obtain⟨H,B⟩:=KY hc;cases h;exact (Tryz.strings_ContainsAny_laid (bs x.1) (bs x.2) w (by rw[jh];exact ZE j) (by rw[jh];exact ZE y) (Xi H) (Xi B)).mono fun e w' ⟨j,y⟩=>⟨j,.of_below y⟩
def zjO(vs:List AV)(h:Heap):Option (Int):=match vs,h with
 |[.int .i32 j],[]=>some j
 |_,_=>none
theorem zAT(vs:List AV)(h:Heap)(x:Int)(j:zjO vs h=some x):vs=[.int .i32 x]/\h=[]:=by unfold zjO at j;split at j<;>cases j;exact⟨rfl,rfl⟩
def WO(_:Nat):Con:=Con6.c ⟨270,Int,Int,zjO,fun x=>zt7 x,fun _ r=>⟨.int .i64 r,[]⟩⟩
theorem zfa(N:Nat):SoundC Tryz.prog GP (WO N):=zZ gd (fun x=>[.int .i32 x]) (fun x=>[.int .i32 x]) (fun r=>.int .i64 r) (by kernel_rfl) zAT (fun _=>rfl) (fun _=>rfl) fun x r w B h=>by cases h;exact (Tryz.utf8_RuneLen x w).mono fun e w' ⟨y,j⟩=>⟨y,.of_eq j⟩
def zf2(vs:List AV)(h:Heap):Option (uAS×Int):=match vs,h with
 |[.str y,.int .i64 j],[]=>some (y,j)
 |_,_=>none
theorem zy6(vs:List AV)(h:Heap)(x:uAS×Int)(j:zf2 vs h=some x):vs=[.str x.1,.int .i64 x.2]/\h=[]:=by unfold zf2 at j;split at j<;>cases j;exact⟨rfl,rfl⟩
def zbF(_:Nat):Con:=Con6.c ⟨75,uAS×Int,uAS,zf2,fun x=>WP x.1 x.2,fun _ r=>⟨.str r,[]⟩⟩
theorem zf9(N:Nat):SoundC Tryz.prog GP (zbF N):=zZ gd (fun x=>[.str x.1,.int .i64 x.2]) (fun x=>[.string (bs x.1),.int .i64 x.2]) (fun r=>.string (bs r)) (by kernel_rfl) zy6 (fun _=>rfl) (fun _=>rfl) fun x r w H h=>by
 obtain⟨hc,h⟩:=zm h;obtain⟨j,hc⟩:=KY hc;obtain⟨y,B⟩:=KY hc;have j:=ZE j;have y:=ZE y;have B:=ZE B;cases h;obtain⟨s,c⟩:=x;obtain⟨k,rfl⟩:∃k:Nat,c=k:=⟨c.toNat,by simp only at j;omega⟩
 simp only[nA]at*
 exact (Tryz.strings_Repeat (bs s) k w (by omega) (by rw[jh];exact B)).mono fun e w' ⟨j,y⟩=>⟨j,.of_below y⟩
def zjP(vs:List AV)(h:Heap):Option (Int):=match vs,h with
 |[.int .i64 j],[]=>some j
 |_,_=>none
theorem zAU(vs:List AV)(h:Heap)(x:Int)(j:zjP vs h=some x):vs=[.int .i64 x]/\h=[]:=by unfold zjP at j;split at j<;>cases j;exact⟨rfl,rfl⟩
def zgS(_:Nat):Con:=Con6.c ⟨179,Int,uAS,zjP,fun x=>zBg x,fun _ r=>⟨.str r,[]⟩⟩
theorem zkT(N:Nat):SoundC Tryz.prog GP (zgS N):=zZ gd (fun x=>[.int .i64 x]) (fun x=>[.int .i64 x]) (fun r=>.string (bs r)) (by kernel_rfl) zAU (fun _=>rfl) (fun _=>rfl) fun x r w B h=>by obtain⟨hc,h⟩:=zm h;obtain⟨y,j⟩:=KY hc;cases h;exact (Tryz.strconv_Itoa x (ZE y) (ZE j) w B.pow).mono fun e w' ⟨y,k,H,j⟩=>⟨y,j▸(Keeps.drewN _ _).trans (Keeps.grow _ _)⟩
def zjN(vs:List AV)(h:Heap):Option uAS:=match vs,h with
 |[.str j],[]=>some j
 |_,_=>none
theorem zAS(vs:List AV)(h:Heap)(x:uAS)(j:zjN vs h=some x):vs=[.str x]/\h=[]:=by unfold zjN at j;split at j<;>cases j;exact⟨rfl,rfl⟩
def zgT(_:Nat):Con:=Con6.c ⟨265,uAS,Int,zjN,fun x=>zBh x,fun _ r=>⟨.tup [.int .i64 r,.nili],[]⟩⟩
theorem zkV(N:Nat):SoundC Tryz.prog GP (zgT N):=zZ gd (fun x=>[.str x]) (fun x=>[.string (bs x)]) (fun r=>.tuple #[.int .i64 r,.nilIface]) (by kernel_rfl) zAS (fun _=>rfl) (fun _=>rfl) fun x r w B h=>by obtain⟨hc,h⟩:=zm h;exact (Tryz.strconv_Atoi (bs x) r (by rw[jh];exact ZE hc) h w).mono fun e w' ⟨y,t,j⟩=>⟨y,by subst j;exact .of_below (Lib.bytesWorld_below _ _ _)⟩
end Go.Proofs.C06
end
section
set_option maxHeartbeats 4000000
set_option maxRecDepth 100000
namespace Go.Proofs.C06
open Go Go.RowKit Go.Vc Go.Am
theorem zyT(b:Nat)(w:World)(H:w.cell? ⟨b,0,none⟩=some (.pointer (some ⟨b,0,none⟩))):
  Calls Tryz.prog 164 #[.pointer (some ⟨b,0,none⟩)] w fun e w'=>e=.returned (.tuple #[])/\w'=w:=by
 have y:∃j,Tryz.prog.info? 200=some j:=⟨_,rfl⟩
 obtain⟨j,B⟩:=y
 go_enter Tryz.func164,Tryz.ntmps164
 go_wp2
 rw[Lib.run_neq_ptr_same w _ (by kernel_rfl) B]
 go_wp2
 go_end0
 exact⟨rfl,rfl⟩
theorem zuV(b:Nat)(w:World)(Z:w.cell? ⟨b,0,none⟩=some (.pointer none))(B:w.shape? b=some (200,2))(U:w.frozen? ⟨b,0,none⟩=false):
  Calls Tryz.prog 164 #[.pointer (some ⟨b,0,none⟩)] w fun e w'=>e=.returned (.tuple #[])/\w'=w.setCell ⟨b,0,none⟩ (.pointer (some ⟨b,0,none⟩)):=by
 have J:∃j,Tryz.prog.info? 200=some j/\j.size=2:=⟨_,rfl,by kernel_rfl⟩
 obtain⟨j,O,I⟩:=J;have H:Tryz.prog.underlying 198=some (.pointer 200):=by kernel_rfl
 have y:Tryz.prog.underlying 307=some (.unsafePointer):=by kernel_rfl
 go_enter Tryz.func164,Tryz.ntmps164
 go_wp2
 rw[Lib.run_to_unsafe w ⟨b,0,none⟩ H y O (by rw[I];decide) B (Nat.zero_lt_succ 1)];simp only[Result.andThen];rw[Oper.upon_value]
 go_wp2
 rw[run_callFunc_extern Tryz.func220 (by kernel_rfl) (by kernel_rfl) (by kernel_rfl) (e:=Extern.AbiNoEscape.same) (by kernel_rfl)];rw[Lib.run_noEscape];simp only[Result.andThen];rw[Oper.upon_value]
 go_wp2
 rw[Lib.run_from_unsafe w ⟨b,0,none⟩ y H O B (by kernel_rfl)];simp only[Result.andThen];rw[Oper.upon_value]
 go_wp2
 go_end0
 exact⟨rfl,rfl⟩
def KS(vs:List AV)(h:Heap):Option (AV×Heap):=match vs,h with
 |[.ptr 0 0],some (.cells 200 [.ptr 0 0,v])::h=>some (v,h)
 |_,_=>none
def Xa(vs:List AV)(h:Heap):Option (AV×Heap):=match vs,h with
 |[.ptr 0 0],some (.cells 200 [.nilp,v])::h=>some (v,h)
 |_,_=>none
def zfL(_:Nat):Con:=Con6.c ⟨164,AV×Heap,Unit,KS,fun _=>some (),fun x _=>⟨.tup [],some (.cells 200 [.ptr 0 0,x.1])::x.2⟩⟩
def zbU(_:Nat):Con:=Con6.c ⟨164,AV×Heap,Unit,Xa,fun _=>some (),fun x _=>⟨.tup [],some (.cells 200 [.ptr 0 0,x.1])::x.2⟩⟩
theorem zjy(N:Nat):SoundC Tryz.prog GP (zfL N):=by
 intro I h x r B hs;have B:KS I h=some x:=B;unfold KS at B;split at B
 ·rename_i v hp hq;cases B;refine⟨jk (by kernel_rfl),fun R G w vs Z W y=>?_⟩;have F:=Yl W;obtain⟨r0,hr,J,hv0,hfp,cs,U,O⟩:=F.look_live (i:=0) rfl;obtain⟨u,us,rfl,⟨f,H,_,rfl⟩,j⟩:=y;have j:us=[]:=j;subst j;rw[J]at H;cases H;obtain⟨c0,cr,rfl,⟨f,H,_,rfl⟩,_⟩:=O;rw[J]at H;cases H;refine(zyT r0.b w (by simp[World.cell?,U])).mono fun e w' ⟨he,hw⟩=>?_
  subst hw;exact⟨_,R,G,he,W,F.since,⟨[],rfl,rfl⟩⟩
 ·cases B
theorem zgg(N:Nat):SoundC Tryz.prog GP (zbU N):=by
 intro U h x r J hs;have J:Xa U h=some x:=J;unfold Xa at J;split at J
 ·rename_i v hp hq;cases J;refine⟨jk (by kernel_rfl),fun R G w vs hGP W I=>?_⟩;have F:=Yl W;obtain⟨r0,hr,Z,O,hfp,cs,y,hrel⟩:=F.look_live (i:=0) rfl;obtain⟨u,us,rfl,⟨f,hf,_,rfl⟩,H⟩:=I;have H:us=[]:=H;subst H;rw[Z]at hf;cases hf;obtain⟨c0,cr,rfl,h0,c1,cr1,rfl,h1,B⟩:=hrel;have B:cr1=[]:=B;subst B;have h0:c0=.pointer none:=h0;subst h0;refine(zuV r0.b w (by simp[World.cell?,y]) (by simp[World.shape?,y]) (by simp[World.frozen?,y])).mono fun e w' ⟨he,hw⟩=>?_
  subst hw;obtain⟨s1,s2⟩:=Qh (o:=0) (v:=.pointer (some ⟨r0.b,0,none⟩)) y;obtain⟨F',_⟩:=F.write (i:=0) (ao:=.cells 200 [.ptr 0 0,v]) rfl hr rfl hfp s2 (fun L' hL=>⟨O,hfp,_,s1,_,_,rfl,⟨_,hL _ _ Z,O,rfl⟩,_,_,rfl,zj (fun _ _ h=>h) _ _ (fun j _ f hf=>hL j f hf) h1,rfl⟩);exact⟨_,R,G,he,F'.wrel,F'.since,⟨[],rfl,rfl⟩⟩
 ·cases J
end Go.Proofs.C06
end
section
set_option maxHeartbeats 2000000
set_option maxRecDepth 100000
namespace Go.Proofs.C06
open Go Go.RowKit Go.Vc Go.Am
theorem zvg(b g cap:Nat)(p:Value)(y:Array Value)(fr:Nat×Nat)(l:uAS)(w:World)(H:l≠[])(U:w.heap[b]? =some (.cells #[p,.slice (some ⟨g,0,none⟩) l.length cap] 200 (0,0)))
  (hg:w.heap[g]? =some (.cells y 5 fr)) (hn:l.length<=cap) (J:l.length<=y.size) (O:l.length<=9223372036854775807) (B:∀j x,l[j]? =some x->w.cell? ((⟨g,0,none⟩:Addr).add j)=some (.int .u8 x.toNat)):
  Calls Tryz.prog 117 #[.pointer (some ⟨b,0,none⟩)] w fun e w'=>e=.returned (.string ⟨l.toArray⟩)/\w'=w.drew.freeze ⟨g,0,none⟩ l.length:=by
 have Z:l.length≠0:=by simpa using H
 have mixed:=Tryz.checked.mixed;have c1:w.drew.cell? ⟨b,1,none⟩=some (.slice (some ⟨g,0,none⟩) l.length cap):=by have:w.drew.heap[b]? =some (.cells #[p,.slice (some ⟨g,0,none⟩) l.length cap] 200 (0,0)):=U;rw[Lib.cell_of_heap this];rfl
 have hSD:(Builtin.unsafeSliceData_ #[22] 261 #[.slice (some ⟨g,0,none⟩) l.length cap]).run Tryz.prog w.drew=.ok (.pointer (some ⟨g,0,none⟩)) w.drew:=
  Lib.run_unsafeSliceData_row _ _ _ _ _ _ (by omega)
 have hUS:(Builtin.unsafeString_ #[261,3] 9 #[.pointer (some ⟨g,0,none⟩),.int .i64 l.length]).run Tryz.prog w.drew=.ok (.string ⟨l.toArray⟩) (w.drew.freeze ⟨g,0,none⟩ l.length):=by refine Lib.run_unsafeString_row w.drew 261 3 9 5 (by kernel_rfl) (by kernel_rfl) g y.size (by have I:w.drew.heap[g]? =some (.cells y 5 fr):=hg;simp[World.shape?,I]) l H J O B
 go_enter Tryz.func117,Tryz.ntmps117
 go_wp2
 go_region_o
 all_goals (go_wp2;go_ret;exact⟨rfl,rfl⟩)
theorem zn1(b:Nat)(p:Value)(w:World)(j:w.heap[b]? =some (.cells #[p,.slice none 0 0] 200 (0,0))):
  Calls Tryz.prog 117 #[.pointer (some ⟨b,0,none⟩)] w fun e w'=>e=.returned (.string ⟨#[]⟩)/\w'=w.drew:=by
 have mixed:=Tryz.checked.mixed;have y:(Builtin.unsafeString_ #[261,3] 9 #[.pointer none,.int .i64 0]).run Tryz.prog w.drew=.ok (.string .empty) w.drew:=Lib.run_unsafeString_none w.drew _ _ _ _;have H:w.drew.cell? ⟨b,1,none⟩=some (.slice none 0 0):=by have:w.drew.heap[b]? =some (.cells #[p,.slice none 0 0] 200 (0,0)):=j;rw[Lib.cell_of_heap this];rfl
 have B:(Builtin.unsafeSliceData_ #[22] 261 #[.slice none 0 0]).run Tryz.prog w.drew=.ok (.pointer none) w.drew:=rfl
 go_enter Tryz.func117,Tryz.ntmps117
 go_wp2
 go_region_o
 all_goals (go_wp2;go_ret;exact⟨rfl,rfl⟩)
theorem zq4(b g cap:Nat)(p:Value)(w:World)(j:cap≠0)(y:w.heap[b]? =some (.cells #[p,.slice (some ⟨g,0,none⟩) 0 cap] 200 (0,0))):
  Calls Tryz.prog 117 #[.pointer (some ⟨b,0,none⟩)] w fun e w'=>e=.returned (.string ⟨#[]⟩)/\w'=w.drew:=by
 have mixed:=Tryz.checked.mixed;have B:(Builtin.unsafeString_ #[261,3] 9 #[.pointer (some ⟨g,0,none⟩),.int .i64 0]).run Tryz.prog w.drew=.ok (.string .empty) w.drew:=Lib.run_unsafeString_none w.drew _ _ _ _;have I:w.drew.cell? ⟨b,1,none⟩=some (.slice (some ⟨g,0,none⟩) 0 cap):=by have:w.drew.heap[b]? =some (.cells #[p,.slice (some ⟨g,0,none⟩) 0 cap] 200 (0,0)):=y;rw[Lib.cell_of_heap this];rfl
 have H:(Builtin.unsafeSliceData_ #[22] 261 #[.slice (some ⟨g,0,none⟩) 0 cap]).run Tryz.prog w.drew=.ok (.pointer (some ⟨g,0,none⟩)) w.drew:=
  Lib.run_unsafeSliceData_row _ _ _ _ _ _ j
 clear j
 go_enter Tryz.func117,Tryz.ntmps117
 go_wp2
 go_region_o
 all_goals (go_wp2;go_ret;exact⟨rfl,rfl⟩)
theorem zlV(b g:Nat)(p:Value)(j:Array Value)(fr:Nat×Nat)(w:World)(y:w.heap[b]? =some (.cells #[p,.slice (some ⟨g,0,none⟩) 0 0] 200 (0,0)))(J:w.heap[g]? =some (.cells j 5 fr)):
  Calls Tryz.prog 117 #[.pointer (some ⟨b,0,none⟩)] w fun e w'=>e=.returned (.string ⟨#[]⟩)/\Vc.Keeps [] w w':=by
 have mixed:=Tryz.checked.mixed;have O:∀W q,(Builtin.unsafeString_ #[261,3] 9 #[.pointer q,.int .i64 0]).run Tryz.prog W=.ok (.string .empty) W:=fun W q=>Lib.run_unsafeString_none W _ _ _ _
 have H:b<w.heap.size:=(Array.getElem?_eq_some_iff.1 y).1;have I:w.drew.cell? ⟨b,1,none⟩=some (.slice (some ⟨g,0,none⟩) 0 0):=by have:w.drew.heap[b]? =some (.cells #[p,.slice (some ⟨g,0,none⟩) 0 0] 200 (0,0)):=y;rw[Lib.cell_of_heap this];rfl
 have U:(Builtin.unsafeSliceData_ #[22] 261 #[.slice (some ⟨g,0,none⟩) 0 0]).run Tryz.prog w.drew=.ok (.pointer (some ⟨w.drew.heap.size,0,none⟩)) (w.drew.alloc (.view ⟨g,0,none⟩ 5)):=
  Lib.run_unsafeSliceData_zero w.drew _ _ 5 (by kernel_rfl) ⟨g,0,none⟩ 0 (5,j.size) (by have B:w.drew.heap[g]? =some (.cells j 5 fr):=J;simp[World.shape?,B])
 have c2:(w.drew.alloc (.view ⟨g,0,none⟩ 5)).cell? ⟨b,1,none⟩=some (.slice (some ⟨g,0,none⟩) 0 0):=by have:(w.drew.alloc (.view ⟨g,0,none⟩ 5)).heap[b]? =_:=(Lib.alloc_old w.drew _ b H).trans y;rw[Lib.cell_of_heap this];rfl
 have c3:(w.alloc (.view ⟨g,0,none⟩ 5)).drew.cell? ⟨b,1,none⟩=some (.slice (some ⟨g,0,none⟩) 0 0):=c2;have Z:w.cell? ⟨b,1,none⟩=some (.slice (some ⟨g,0,none⟩) 0 0):=I
 go_enter Tryz.func117,Tryz.ntmps117
 go_wp2
 go_region_o
 all_goals (go_wp2;go_ret;exact⟨rfl,.of_below ((Below.drew (Below.refl _ w)).alloc (mA _) _)⟩)
theorem zA2{R:Ro}{G:List Res}{w w':World}{v:AV}{l:uAS}{r1:Res}(W:WRel R G [some (.cells 200 [.ptr 0 0,v]),some (.bytes 5 l)] w)(hr1:G[1]? =some r1)(k:Keeps r1.fp w w'):
  WRel R G [some (.cells 200 [.ptr 0 0,.undef]),none] w'/\Since ⟨R,Am.look G [some (.cells 200 [.ptr 0 0,v]),some (.bytes 5 l)],fpsAll G [some (.cells 200 [.ptr 0 0,v]),some (.bytes 5 l)],w,2⟩ R G [some (.cells 200 [.ptr 0 0,.undef]),none] w':=by
 have F:=Yl W;obtain⟨r0,B,hlk0,Z,I,cs,hcs,hrel⟩:=F.look_live (i:=0) rfl;have two:∀{h:Heap}{i:Nat},h.length=2->i∉[0,1]->¬live h i:=fun O H hlv=>by have:=jg hlv;simp at H;omega
 have y:¬live [some (.cells 200 [.ptr 0 0,.undef]),none] 1:=fun⟨o,ho⟩=>by simp[hget]at ho
 refine yd (G':=G) (h':=[some (.cells 200 [.ptr 0 0,.undef]),none]) (A:=[0,1]) (Fr:=fun _=>False) F.wrel F.since k
  (fun b hb=>.inr ⟨1,r1,by simp,⟨_,rfl⟩,hr1,hb⟩) (fun _ h=>h.elim) (by simpa using W.len) (by simp) (fun i H O=>(two rfl H O).elim)
  (fun i o H ho=>(two rfl H ⟨o,ho⟩).elim) (fun _ _ h=>h) (fun b o h1 h2=>by rw[h1]at h2;cases h2)
  (fun i o r H ho hr=>?_) (fun i j ri rj hij H hj hli hlj=>?_) (fun i H hA O=>?_)
 ·rcases mS.1 H with rfl|H
  ·have ho:some (AO.cells 200 [.ptr 0 0,.undef])=some o:=ho;cases ho;rw[B]at hr;cases hr;obtain⟨c0,cr,rfl,⟨f,hf,hfv,rfl⟩,c1,cr1,rfl,h1,J⟩:=hrel;have J:cr1=[]:=J;subst J;rw[hlk0]at hf;cases hf;refine⟨⟨Z,I,[.pointer (some ⟨r0.b,0,none⟩),c1],?_,_,_,rfl,⟨_,zG (o:=.cells 200 [.ptr 0 0,.undef]) rfl B,Z,rfl⟩,_,_,rfl,trivial,rfl⟩,fun b hb=>⟨W.sepR 0 r0 ⟨_,rfl⟩ B b hb,.inr (.inl ⟨0,r0,by simp,⟨_,rfl⟩,B,hb⟩)⟩⟩;rw[k.block r0.b (zV hcs) (fun hm=>W.sep 0 1 r0 r1 (by simp) ⟨_,rfl⟩ ⟨_,rfl⟩ B hr1 r0.b (by rw[I];simp) hm)];exact hcs
  ·have H:i=1:=by simpa using H
   subst H;exact (y ⟨o,ho⟩).elim
 ·have z:∀x,x∈[0,1]->live [some (.cells 200 [.ptr 0 0,.undef]),none] x->x=0:=by
   intro x U O;rcases mS.1 U with rfl|U
   ·rfl
   ·have U:x=1:=by simpa using U
    subst U;exact (y O).elim
  exact (hij ((z i H hli).trans (z j hj hlj).symm)).elim
 ·rcases mS.1 hA with rfl|hA
  ·show Am.look G _ 0=Am.look G _ 0;rw[zG (o:=.cells 200 [.ptr 0 0,.undef]) rfl B,zG (o:=.cells 200 [.ptr 0 0,v]) rfl B];rfl
  ·have hA:i=1:=by simpa using hA
   subst hA;exact (y O).elim
theorem zvh{b:Nat}{p V:Value}{l:uAS}{r:Res}{w:World}(y:w.heap[b]? =some (.cells #[p,V] 200 (0,0)))(B:RowAt w r 5 1 l.length (fun cs=>cs=l.map u8V))(hV:V=jX r l.length)(hc:r.cap<=maxLen\/l.length<=maxLen):
  Calls Tryz.prog 117 #[.pointer (some ⟨b,0,none⟩)] w fun e w'=>e=.returned (.string (bs l))/\Keeps r.fp w w':=by
 subst hV;have hlm:l.length<=9223372036854775807:=by
  rcases B with⟨_,h0,_⟩|⟨_,_,hle,_⟩
  ·omega
  ·rcases hc with hc|hc
   ·exact uAG hle hc
   ·exact hc
 rcases B with⟨g1,g2,g3,Z⟩|⟨g1,g2,g3,cs,tl,fr,Z,g5,g6,g7,g8⟩
 ·have U:l=[]:=mW.1 g2;subst U;rw[show jX r ([]:uAS).length=.slice none 0 0 by simp[jX,g1]]at y;exact (zn1 b p w y).mono fun e w' ⟨I,O⟩=>⟨I,by subst O;exact Keeps.drawn w _⟩
 ·rw[show jX r l.length=.slice (some ⟨r.b,0,none⟩) l.length r.cap by simp[jX,g1]]at y;rw[g2];have hd:Keeps [r.b] w w.drew:=Keeps.drawn w _;by_cases U:l=[]
  ·subst U;by_cases H:r.cap=0
   ·rw[H]at y;exact (zlV b r.b p _ fr w y Z).mono fun e w' ⟨I,O⟩=>⟨I,O.wide⟩
   ·exact (zq4 b r.b r.cap p w H y).mono fun e w' ⟨I,O⟩=>⟨I,by subst O;exact hd⟩
  ·have hg6:cs.length=l.length:=by rw[g5];simp
   refine(zvg b r.b r.cap p _ fr l w U y Z g3 (by simp;omega) hlm (fun j x hj=>?_)).mono fun e w' ⟨I,O⟩=>⟨I,?_⟩
   ·rw[Yo,uAr];have hjl:j<l.length:=(kX.1 hj).1;simp only[World.cell?,Z];have:(cs++tl).toArray[j]? =some (u8V x):=by simp only[uAv];rw[mN (by omega),g5,mX,hj];rfl
    simpa[u8V]using this
   ·subst O;refine hd.trans ⟨by unfold World.freeze;split<;>rfl,by unfold World.freeze;split<;>rfl,by unfold World.freeze;split<;>rfl,by unfold World.freeze;split<;>simp,fun k hk J=>?_⟩;have J:k≠r.b:=by simpa using J
    unfold World.freeze;split
    ·rfl
    ·simp[Array.getElem?_modify,Ne.symm J]
def zt3(l:uAS):Bool:=decide (l.length<=9223372036854775807)
def zfR(vs:List AV)(h:Heap):Option (Bool×uAS):=match vs,h with
 |[.ptr 0 0],[some (.cells 200 [.ptr 0 0,.rw 1]),some (.bytes 5 l)]=>some (false,l)
 |[.ptr 0 0],[some (.cells 200 [.ptr 0 0,.rwp 1]),some (.bytes 5 l)]=>some (true,l)
 |_,_=>none
def zly(_:Nat):Con:=Con6.c ⟨117,Bool×uAS,uAS,zfR,fun x=>chk (zt3 x.2) (some x.2),fun _ l=>⟨.str l,[some (.cells 200 [.ptr 0 0,.undef]),none]⟩⟩
theorem znD(N:Nat):SoundC Tryz.prog GP (zly N):=by
 intro args h x r I U;have I:zfR args h=some x:=I;have U:chk (zt3 x.2) (some x.2)=some r:=U;obtain⟨hm,U⟩:=zm U;cases U;have hm:=of_decide_eq_true hm;have key:∀{v:AV}{l:uAS},l.length<=9223372036854775807->(∀(L:Lk)(R:Ro)(j:Res)(V:Value),L 1=some ⟨j.b,j.virt,j.cap,l.length⟩->Rel L R v V->V=jX j l.length)->
   ∀R G w vs,GP R->WRel R G [some (.cells 200 [.ptr 0 0,v]),some (.bytes 5 l)] w->RelL (Am.look G [some (.cells 200 [.ptr 0 0,v]),some (.bytes 5 l)]) R [.ptr 0 0] vs->
   Calls Tryz.prog 117 vs.toArray w fun e w'=>∃V R' G',e=.returned V/\WRel R' G' [some (.cells 200 [.ptr 0 0,.undef]),none] w'/\
   Since ⟨R,Am.look G [some (.cells 200 [.ptr 0 0,v]),some (.bytes 5 l)],fpsAll G [some (.cells 200 [.ptr 0 0,v]),some (.bytes 5 l)],w,2⟩ R' G' [some (.cells 200 [.ptr 0 0,.undef]),none] w'/\Rel (Am.look G' [some (.cells 200 [.ptr 0 0,.undef]),none]) R' (.str l) V:=by
  intro v l hlm hv R G w vs hGP W O;have F:=Yl W;obtain⟨r0,hr0,Z,hv0,hfp0,cs,hcs,hrel⟩:=F.look_live (i:=0) rfl;obtain⟨j,hr1,hlk1,B⟩:=F.look_live (i:=1) rfl;obtain⟨u,us,rfl,⟨f,y,_,rfl⟩,J⟩:=O;have J:us=[]:=J;subst J;rw[Z]at y;cases y;obtain⟨c0,cr,rfl,h0,c1,cr1,rfl,h1,H⟩:=hrel;have H:cr1=[]:=H;subst H;have hV:=hv _ _ j _ hlk1 h1;simp only[ObjRel]at B;refine(zvh hcs B hV (.inr hlm)).mono fun e w' ⟨he,hk⟩=>?_
  obtain⟨g1,g2⟩:=zA2 W hr1 hk;exact⟨_,R,G,he,g1,g2,rfl⟩
 unfold zfR at I;split at I
 ·cases I;refine⟨jk (by kernel_rfl),key hm fun L R j V hL hV=>?_⟩;obtain⟨f,y,h2,h3⟩:=hV;rw[hL]at y;cases y;unfold jX;cases hv:j.virt with
  |true=>simp only[if_true];exact (h2 hv).2
  |false=>simp only[mR,if_false];exact h3 hv
 ·cases I;refine⟨jk (by kernel_rfl),key hm fun L R j V hL hV=>?_⟩;obtain⟨f,y,h2,_,h3⟩:=hV;rw[hL]at y;cases y;unfold jX;rw[if_neg (by simpa using h2)];exact h3
 ·cases I
def zbe(vs:List AV)(h:Heap):Option Unit:=match vs,h with
 |[.ptr 0 0],[some (.cells 200 [.nilp,.nils])]=>some ()
 |_,_=>none
def zhi(_:Nat):Con:=Con6.c ⟨117,Unit,Unit,zbe,fun _=>some (),fun _ _=>⟨.str [],[some (.cells 200 [.nilp,.nils])]⟩⟩
theorem zlz(N:Nat):SoundC Tryz.prog GP (zhi N):=by
 intro J h x r H hs;have H:zbe J h=some x:=H;unfold zbe at H;split at H
 ·cases H;refine⟨jk (by kernel_rfl),fun R G w vs hGP W B=>?_⟩;have F:=Yl W;obtain⟨r0,hr0,I,hv0,hfp0,cs,hcs,O⟩:=F.look_live (i:=0) rfl;obtain⟨u,us,rfl,⟨f,hf,_,rfl⟩,y⟩:=B;have y:us=[]:=y;subst y;rw[I]at hf;cases hf;obtain⟨c0,cr,rfl,h0,c1,Z,rfl,U,j⟩:=O;have j:Z=[]:=j;subst j;have U:c1=.slice none 0 0:=U;subst U;refine(zn1 r0.b c0 w hcs).mono fun e w' ⟨he,hw⟩=>?_
  subst hw;have F':=F.keep (Keeps.drawn w (w.drew).drawn:Keeps [] w w.drew);exact⟨_,R,G,he,F'.wrel,F'.since,rfl⟩
 ·cases H
end Go.Proofs.C06
end
section
set_option maxHeartbeats 4000000
set_option maxRecDepth 100000
namespace Go.Proofs.C06
open Go Go.RowKit Go.Vc Go.Am
def zBA(b n:Nat)(w:World)(e:Ending)(w':World):Prop:=e=.returned (.tuple #[])/\Keeps [b] w w'/\∃g cap cs,w.heap.size<=g/\n<=cap/\cs.size=cap/\w'.heap[b]? =some (.cells #[.pointer (some ⟨b,0,none⟩),.slice (some ⟨g,0,none⟩) 0 cap] 200 (0,0))/\w'.heap[g]? =some (.cells cs 5 (0,0))
theorem zyD{b n:Nat}{w:World}{cs:Array Value}(j:w.heap[b]? =some (.cells #[.pointer (some ⟨b,0,none⟩),.slice none 0 0] 200 (0,0)))(y:n<=cs.size):
  zBA b n w (.returned (.tuple #[])) ((w.setCell ⟨b,1,none⟩ (.slice (some ⟨w.heap.size,0,none⟩) 0 cs.size)).alloc (.cells cs 5)).drew.drew.drew:=by
 have J:b<w.heap.size:=zV j;obtain⟨I,H⟩:=Qh (o:=1) (v:=.slice (some ⟨w.heap.size,0,none⟩) 0 cs.size) (cs:=[.pointer (some ⟨b,0,none⟩),.slice none 0 0]) j;have B:(w.setCell ⟨b,1,none⟩ (.slice (some ⟨w.heap.size,0,none⟩) 0 cs.size)).heap.size=w.heap.size:=by simp[World.setCell]
 generalize w.setCell ⟨b,1,none⟩ (.slice (some ⟨w.heap.size,0,none⟩) 0 cs.size)=W at I H B;have kd:Keeps [b] W (W.alloc (.cells cs 5)).drew.drew.drew:=(Keeps.of_below (((((Below.refl _ W).alloc (mA _) _).drew).drew).drew)).mono (by simp);refine⟨rfl,H.trans kd,w.heap.size,cs.size,cs,mA _,y,rfl,?_,?_⟩
 ·exact (Lib.alloc_old W _ b (by omega)).trans I
 ·rw[<-B];exact heap_alloc_new W _
theorem zug(b n:Nat)(w:World)(y:w.heap[b]? =some (.cells #[.pointer (some ⟨b,0,none⟩),.slice none 0 0] 200 (0,0)))(hn:n<=281474976710656):
  Calls Tryz.prog 165 #[.pointer (some ⟨b,0,none⟩),.int .i64 n] w (zBA b n w):=by
 have mixed:=Tryz.checked.mixed;have H:Tryz.prog.underlying 22=some (.slice 5):=by kernel_rfl
 obtain⟨cs,J,hle,hmax⟩:=Lib.run_makeNoZero (P:=Tryz.prog) w.drew #[3] 22 5 H n hn;have hw:IntKind.i64.wrap (IntKind.i64.wrap 0+(n:Int))=n:=by rw[IntKind.wrap_i64,IntKind.wrap_i64];omega
 have O:(callFunc 145 #[.int .i64 (IntKind.i64.wrap (IntKind.i64.wrap 0+(n:Int)))]).run Tryz.prog w.drew=.ok (.value (.slice (some ⟨w.drew.heap.size,0,none⟩) n cs.size)) (w.drew.drew.drew.alloc (.cells cs 5)):=by rw[hw,run_callFunc_extern Tryz.func145 (by kernel_rfl) (by kernel_rfl) (by kernel_rfl) (e:=Extern.BytealgMakeNoZero.makeNoZero #[3] #[22]) (by kernel_rfl),J];rfl
 have Z:b<w.heap.size:=zV y;have c1:w.drew.cell? ⟨b,1,none⟩=some (.slice none 0 0):=by have:w.drew.heap[b]? =_:=y;rw[Lib.cell_of_heap this];rfl
 have I:(w.alloc (.cells cs 5)).heap[b]? =some (.cells #[.pointer (some ⟨b,0,none⟩),.slice none 0 0] 200 (0,0)):=(Lib.alloc_old w _ b Z).trans y;have c2:(w.alloc (.cells cs 5)).cell? ⟨b,1,none⟩=some (.slice none 0 0):=by rw[Lib.cell_of_heap I];rfl
 have f2:(w.alloc (.cells cs 5)).frozen? ⟨b,1,none⟩=false:=Lib.frozen_of_heap I 1;have hsz:∃j,Tryz.prog.info? 5=some j/\j.size=1:=⟨_,rfl,by kernel_rfl⟩
 obtain⟨j,hj,U⟩:=hsz;have hcopy:∀W:World,(Builtin.copy_ #[22,22] 3 #[.slice (some ⟨w.heap.size,0,none⟩) 0 cs.size,.slice none 0 0]).run Tryz.prog W=.ok (goInt 0) W:=
  fun W=>run_copy_none W 22 22 3 5 _ _ 0 cs.size 0 0 H (by kernel_rfl) rfl
 have B:=zyD (w:=w) y hle;clear hw hj U
 go_enter Tryz.func165,Tryz.ntmps165
 go_wp2
 go_region_o
 all_goals (go_wp2;go_end0;exact B)
end Go.Proofs.C06
end
section
set_option maxHeartbeats 4000000
set_option maxRecDepth 100000
namespace Go.Proofs.C06
open Go Go.RowKit Go.Vc Go.Am
def zbh(vs:List AV)(h:Heap):Option Int:=match vs,h with
 |[.ptr 0 0,.int .i64 n],[some (.cells 200 [.ptr 0 0,.nils])]=>some n
 |_,_=>none
def zhT(n:Int):Bool:=match n with
 |.ofNat m=>Nat.ble 1 m&&Nat.ble m 281474976710656
 |_=>false
theorem zmd{n:Int}(h:zhT n=true):1<=n/\n<=281474976710656:=by
 unfold zhT at h;split at h
 ·simp only[kY,uAB]at h;simp only[uAQ];omega
 ·cases h
def zhk(_:Nat):Con:=Con6.c ⟨165,Int,Unit,zbh,fun n=>chk (zhT n) (some ()),fun _ _=>⟨.tup [],[some (.cells 200 [.ptr 0 0,.rwp 1]),some (.bytes 5 [])]⟩⟩
theorem zlF(N:Nat):SoundC Tryz.prog GP (zhk N):=by
 intro args h (n:Int) r hd hs;have hd:zbh args h=some n:=hd;have hs:chk (zhT n) (some ())=some r:=hs;obtain⟨hm,hs⟩:=zm hs;obtain⟨hm1,hm2⟩:=zmd hm;unfold zbh at hd;split at hd
 ·cases hd;refine⟨jk (by kernel_rfl),fun R G w vs hGP W Z=>?_⟩;have F:=Yl W;obtain⟨r0,I,J,hv0,H,cs,hcs,hrel⟩:=F.look_live (i:=0) rfl;obtain⟨u,us,rfl,⟨f,hf,_,rfl⟩,u2,us2,rfl,rfl,U⟩:=Z;have U:us2=[]:=U;subst U;rw[J]at hf;cases hf;obtain⟨c0,cr,rfl,⟨f,hf,_,rfl⟩,c1,cr1,rfl,h1,O⟩:=hrel;have O:cr1=[]:=O;subst O;have h1:c1=.slice none 0 0:=h1;subst h1;rw[J]at hf;cases hf;obtain⟨k,rfl⟩:∃k:Nat,n=k:=⟨n.toNat,by omega⟩
  refine(zug r0.b k w hcs (by omega)).mono fun e w' ⟨he,kp,g,cap,cells,hg,hcap,hsz,hb',hg'⟩=>?_
  have hlt:r0.b<w.heap.size:=zV hcs;have hG:G.length=1:=by simpa using W.len
  have hG0:∀r',[r0,⟨g,false,cap,[g]⟩][0]? =some r'->r'=r0:=fun r' h=>by simpa using h.symm
  have l0:Am.look [r0,(⟨g,false,cap,[g]⟩:Res)] [some (.cells 200 [.ptr 0 0,.rwp 1]),some (.bytes 5 [])] 0=some ⟨r0.b,r0.virt,r0.cap,0⟩:=rfl;have l1:Am.look [r0,(⟨g,false,cap,[g]⟩:Res)] [some (.cells 200 [.ptr 0 0,.rwp 1]),some (.bytes 5 [])] 1=some ⟨g,false,cap,0⟩:=rfl;have two:∀{h:Heap}{i:Nat},h.length=2->i∉[0,1]->¬live h i:=fun hl y hlv=>by have:=jg hlv;simp at y;omega
  obtain⟨s1,s2⟩:=yd (R':=R) (G':=[r0,⟨g,false,cap,[g]⟩]) (h':=[some (.cells 200 [.ptr 0 0,.rwp 1]),some (.bytes 5 [])]) (A:=[0,1]) (Fr:=fun _=>False) F.wrel F.since kp
   (fun b B=>.inr ⟨0,r0,by simp,⟨_,rfl⟩,I,by rw[H];exact B⟩) (fun _ h=>h.elim) rfl (by simp) (fun i y hl=>(two rfl y hl).elim)
   (fun i o y ho=>(two rfl y ⟨o,ho⟩).elim) (fun _ _ h=>h) (fun b o h1 h2=>by rw[h1]at h2;cases h2)
   (fun i o r y ho hr=>by
    rcases mS.1 y with rfl|y
    ·have ho:some (AO.cells 200 [.ptr 0 0,.rwp 1])=some o:=ho;cases ho;have hr:=hG0 _ hr;subst hr;exact⟨⟨hv0,H,[.pointer (some ⟨r.b,0,none⟩),.slice (some ⟨g,0,none⟩) 0 cap],hb',_,_,rfl,⟨_,l0,hv0,rfl⟩,_,_,rfl,⟨_,l1,rfl,by show 1<=cap;omega,rfl⟩,rfl⟩,
      fun b B=>⟨W.sepR 0 r ⟨_,rfl⟩ I b B,.inr (.inl ⟨0,r,by simp,⟨_,rfl⟩,I,B⟩)⟩⟩
    ·have y:i=1:=by simpa using y
     subst y;have ho:some (AO.bytes 5 [])=some o:=ho;cases ho;have hr:some (⟨g,false,cap,[g]⟩:Res)=some r:=hr;cases hr;refine⟨.inr ⟨rfl,rfl,nL _,[],cells.toList,(0,0),by simpa using hg',rfl,rfl,by have:=hsz;simp;omega,mA _,fun j _ h2=>by omega⟩,fun b B=>?_⟩;have B:b=g:=by simpa using B
     subst B;refine⟨?_,.inr (.inr hg)⟩;cases hrb:R b with
     |none=>rfl
     |some ob=>have:=zV (W.ro _ _ hrb);omega)
   (fun i j ri rj hij y hj hli hlj hri hrj b B=>by
    have z:∀x,x∈[0,1]->x=0\/x=1:=by simp
    have f0:∀r,[r0,(⟨g,false,cap,[g]⟩:Res)][0]? =some r->r.fp=[r0.b]:=fun r h=>by have h:=hG0 _ h;subst h;exact H
    have f1:∀r,[r0,(⟨g,false,cap,[g]⟩:Res)][1]? =some r->r.fp=[g]:=fun r h=>by have h:some (⟨g,false,cap,[g]⟩:Res)=some r:=h;cases h;rfl
    rcases z i y with rfl|rfl<;>rcases z j hj with rfl|rfl
    ·exact (hij rfl).elim
    ·rw[f0 _ hri]at B;rw[f1 _ hrj];simp only[mD]at B⊢;omega
    ·rw[f1 _ hri]at B;rw[f0 _ hrj];simp only[mD]at B⊢;omega
    ·exact (hij rfl).elim)
   (fun i y hA hl=>by
    have y:i<1:=y;have y:i=0:=by omega
    subst y;show Am.look _ _ 0=Am.look G _ 0;rw[l0,zG (o:=.cells 200 [.ptr 0 0,.nils]) rfl I];rfl)
  exact⟨_,R,_,he,s1,s2,⟨[],rfl,rfl⟩⟩
 ·cases hd
end Go.Proofs.C06
end
