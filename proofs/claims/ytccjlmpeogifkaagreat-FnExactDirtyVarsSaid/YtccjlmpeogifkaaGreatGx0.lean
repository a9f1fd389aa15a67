/- Functions of the program as plain Lean functions, and that each call comes to its function's answer; written by a program of the session. No condition. -/
import Derived.Test.YtccjlmpeogifkaaGreatProg
import Derived.Below
import Derived.Deep.Draws
import Derived.Deep.AppendLies
import Derived.Maps.AppendAt
import Derived.OwnWalk
import Derived.Laws.BytesArg
import Derived.Laws.MakeOwn
import Derived.Laws.OwnMore
import Derived.Deep.OwnRows
import Derived.Tactics
import Derived.Lib.ConvBytes
import Derived.Laws.Slices
import Derived.WalkKit
import Derived.KernelRfl
import Derived.RowKit3
import Derived.Deep.LoopGhost
import Derived.Deep.QuietTactic
import Derived.BigQuiet
import Derived.WideLaws
import Derived.Deep.DeepCutAuto
import Derived.Deep.CutBlock
import Derived.Deep.RegionHeld3
import Derived.Laws.Rows
import Derived.Lib.AppendStr
import Derived.ArgAppend
import Derived.Laws.IdiomCopy
import Derived.OrdersHeld
import Derived.Laws.BitsLemmas
import Derived.RowKit
import Derived.Test.YtccjlmpeogifkaaGreatShelf
import Derived.Test.YtccjlmpeogifkaaGreatShelf2
import Derived.Test.YtccjlmpeogifkaaGreatW0
import Derived.Test.YtccjlmpeogifkaaGreatOpen
import Derived.Test.YtccjlmpeogifkaaGreatSep
namespace Go.Proofs.YtccjlmpeogifkaaGreat.G
open Go.RowKit Go.Proofs.YtccjlmpeogifkaaGreatW.PrintWords Go.Proofs.YtccjlmpeogifkaaGreatW.PrintLast Go.Proofs.YtccjlmpeogifkaaGreatW.PrintMore
attribute [local go_sem] max2_int min2_int max_two min_two max_three min_three max_four min_four   -- for this text's walks alone
set_option linter.unusedVariables false
set_option linter.unusedSimpArgs false
def errW:Option Int→Value
 |none=> .nilIface
 |some c=> .iface 0 (.int .i64 c)
theorem errW_none:errW none= .nilIface:=rfl
theorem errW_some (c:Int):errW (some c)= .iface 0 (.int .i64 c):=rfl
theorem info3:(Tryz.prog.info? 3).map (fun i=>(i.zero,i.size,i.bytes))=some (some (.int .i64 0),1,8):=by kernel_rfl
theorem info4:(Tryz.prog.info? 4).map (fun i=>(i.zero,i.size,i.bytes))=some (some (.bool false),1,1):=by kernel_rfl
theorem info55:(Tryz.prog.info? 55).map (fun i=>(i.zero,i.size,i.bytes))=some (some (.agg #[(.slice none 0 0),(.int .i64 0),(.int .i64 0),(.int .i64 0)]),4,48):=by kernel_rfl
theorem info77:(Tryz.prog.info? 77).map (fun i=>(i.zero,i.size,i.bytes))=some (some (.agg #[(.int .i64 0),(.int .i64 0),(.int .i64 0),(.int .i64 0),(.int .i64 0),(.int .i64 0)]),6,48):=by kernel_rfl
-- the values' own types
structure S66 where
 f0:Int
 f1:Int
 f2:Int
def z66:S66:=⟨(0:Int),(0:Int),(0:Int)⟩
def k66:Kd S66:=Kd.iso (Kd.pair (Kd.int .i64) (Kd.pair (Kd.int .i64) (Kd.int .i64))) (fun x:S66=>(x.f0,x.f1,x.f2))
theorem k66_open {w:World} {x:S66} {cs:List Value} (h:k66.K w x cs):cs=[.int .i64 x.f0,.int .i64 x.f1,.int .i64 x.f2]:=by
 obtain⟨_,_,rfl,rfl,⟨_,_,rfl,rfl,rfl⟩⟩:=h
 exact rfl
structure S112 where
 f0:Int
 f1:Int
 f2:Int
 f3:S66
def z112:S112:=⟨(0:Int),(0:Int),(0:Int),z66⟩
def k112:Kd S112:=Kd.iso (Kd.pair (Kd.int .i64) (Kd.pair (Kd.int .i64) (Kd.pair (Kd.int .i64) k66))) (fun x:S112=>(x.f0,x.f1,x.f2,x.f3))
theorem k112_open {w:World} {x:S112} {cs:List Value} (h:k112.K w x cs):cs=[.int .i64 x.f0,.int .i64 x.f1,.int .i64 x.f2,.int .i64 x.f3.f0,.int .i64 x.f3.f1,.int .i64 x.f3.f2]:=by
 obtain⟨_,_,rfl,rfl,⟨_,_,rfl,rfl,⟨_,_,rfl,rfl,s3⟩⟩⟩:=h
 obtain rfl:=k66_open s3
 exact rfl
def rd_T112 (xs:List S112) (i:Int):S112:=xs.getD i.toNat z112
theorem at_T112 {w:World} {A:Option Addr} {n:Nat} {xs:List S112} (h:Kd.C k112 w A n xs) (i:Int) (h0:0≤i) (h1:i<n):∃ad,A=some ad∧w.cell? (ad.add (i.toNat*6))=some (.int .i64 (rd_T112 xs i).f0)∧w.cell? ⟨(ad.add (i.toNat*6)).block,(ad.add (i.toNat*6)).off+1,none⟩=some (.int .i64 (rd_T112 xs i).f1)∧w.cell? ⟨(ad.add (i.toNat*6)).block,(ad.add (i.toNat*6)).off+2,none⟩=some (.int .i64 (rd_T112 xs i).f2)∧w.cell? ⟨(ad.add (i.toNat*6)).block,(ad.add (i.toNat*6)).off+3,none⟩=some (.int .i64 (rd_T112 xs i).f3.f0)∧w.cell? ⟨(ad.add (i.toNat*6)).block,(ad.add (i.toNat*6)).off+4,none⟩=some (.int .i64 (rd_T112 xs i).f3.f1)∧w.cell? ⟨(ad.add (i.toNat*6)).block,(ad.add (i.toNat*6)).off+5,none⟩=some (.int .i64 (rd_T112 xs i).f3.f2):=by
 obtain⟨ad,c,e,_,hK,hc0⟩:=Kd.C_get h z112 i h0 h1
 have hc:∀j u,c[j]? =some u→w.cell? (ad.add (i.toNat*6+j))=some u:=hc0
 obtain rfl:=k112_open hK
 exact⟨ad,e,hc 0 _ rfl,by rw[←add_field _ _ 1 (by omega)];exact hc 1 _ rfl,by rw[←add_field _ _ 2 (by omega)];exact hc 2 _ rfl,by rw[←add_field _ _ 3 (by omega)];exact hc 3 _ rfl,by rw[←add_field _ _ 4 (by omega)];exact hc 4 _ rfl,by rw[←add_field _ _ 5 (by omega)];exact hc 5 _ rfl⟩
structure S68 where
 f0:(List S112)
 f1:S66
def z68:S68:=⟨([]:List S112),z66⟩
def k68:Kd S68:=Kd.iso (Kd.pair (Kd.slice 112 k112) k66) (fun x:S68=>(x.f0,x.f1))
theorem k68_open {w:World} {x:S68} {cs:List Value} (h:k68.K w x cs):∃A0 c0,cs=[.slice A0 x.f0.length c0,.int .i64 x.f1.f0,.int .i64 x.f1.f1,.int .i64 x.f1.f2]∧x.f0.length≤c0∧k112.C w A0 x.f0.length x.f0:=by
 obtain⟨_,_,rfl,⟨A0,c0,rfl,l0,g0⟩,s1⟩:=h
 obtain rfl:=k66_open s1
 exact⟨A0,c0,rfl,l0,g0⟩
def rd_T68 (xs:List S68) (i:Int):S68:=xs.getD i.toNat z68
theorem at_T68 {w:World} {A:Option Addr} {n:Nat} {xs:List S68} (h:Kd.C k68 w A n xs) (i:Int) (h0:0≤i) (h1:i<n):∃ad A0 c0,A=some ad∧w.cell? (ad.add (i.toNat*4))=some (.slice A0 (rd_T68 xs i).f0.length c0)∧w.cell? ⟨(ad.add (i.toNat*4)).block,(ad.add (i.toNat*4)).off+1,none⟩=some (.int .i64 (rd_T68 xs i).f1.f0)∧w.cell? ⟨(ad.add (i.toNat*4)).block,(ad.add (i.toNat*4)).off+2,none⟩=some (.int .i64 (rd_T68 xs i).f1.f1)∧w.cell? ⟨(ad.add (i.toNat*4)).block,(ad.add (i.toNat*4)).off+3,none⟩=some (.int .i64 (rd_T68 xs i).f1.f2)∧(rd_T68 xs i).f0.length≤c0∧k112.C w A0 (rd_T68 xs i).f0.length (rd_T68 xs i).f0:=by
 obtain⟨ad,c,e,_,hK,hc0⟩:=Kd.C_get h z68 i h0 h1
 have hc:∀j u,c[j]? =some u→w.cell? (ad.add (i.toNat*4+j))=some u:=hc0
 obtain⟨A0,c0,rfl,l0,g0⟩:=k68_open hK
 exact⟨ad,A0,c0,e,hc 0 _ rfl,by rw[←add_field _ _ 1 (by omega)];exact hc 1 _ rfl,by rw[←add_field _ _ 2 (by omega)];exact hc 2 _ rfl,by rw[←add_field _ _ 3 (by omega)];exact hc 3 _ rfl,l0,g0⟩
structure S53 where
 f0:Int
 f1:Int
 f2:Int
def z53:S53:=⟨(0:Int),(0:Int),(0:Int)⟩
def k53:Kd S53:=Kd.iso (Kd.pair (Kd.int .i64) (Kd.pair (Kd.int .i64) (Kd.int .i64))) (fun x:S53=>(x.f0,x.f1,x.f2))
theorem k53_heap:Kd.Heap k53:=Kd.heap_iso _ (Kd.heap_pair (Kd.heap_int .i64) (Kd.heap_pair (Kd.heap_int .i64) (Kd.heap_int .i64)))
theorem k53_open {w:World} {x:S53} {cs:List Value} (h:k53.K w x cs):cs=[.int .i64 x.f0,.int .i64 x.f1,.int .i64 x.f2]:=by
 obtain⟨_,_,rfl,rfl,⟨_,_,rfl,rfl,rfl⟩⟩:=h
 exact rfl
theorem k53_openM {w:World} {base:Nat} {ok:Nat→Prop} {x:S53} {cs:List Value} (h:k53.M w base ok x cs):cs=[.int .i64 x.f0,.int .i64 x.f1,.int .i64 x.f2]:=by
 obtain⟨_,_,rfl,rfl,⟨_,_,rfl,rfl,rfl⟩⟩:=h
 exact rfl
theorem k53_mkM (w:World) (base:Nat) (ok:Nat→Prop) (x:S53):k53.M w base ok x [.int .i64 x.f0,.int .i64 x.f1,.int .i64 x.f2]:=⟨[.int .i64 x.f0],[.int .i64 x.f1,.int .i64 x.f2],rfl,rfl,⟨[.int .i64 x.f1],[.int .i64 x.f2],rfl,rfl,rfl⟩⟩
structure S77 where
 f0:Int
 f1:Int
 f2:Int
 f3:S53
def z77:S77:=⟨(0:Int),(0:Int),(0:Int),z53⟩
def k77:Kd S77:=Kd.iso (Kd.pair (Kd.int .i64) (Kd.pair (Kd.int .i64) (Kd.pair (Kd.int .i64) k53))) (fun x:S77=>(x.f0,x.f1,x.f2,x.f3))
theorem k77_heap:Kd.Heap k77:=Kd.heap_iso _ (Kd.heap_pair (Kd.heap_int .i64) (Kd.heap_pair (Kd.heap_int .i64) (Kd.heap_pair (Kd.heap_int .i64) k53_heap)))
theorem k77_open {w:World} {x:S77} {cs:List Value} (h:k77.K w x cs):cs=[.int .i64 x.f0,.int .i64 x.f1,.int .i64 x.f2,.int .i64 x.f3.f0,.int .i64 x.f3.f1,.int .i64 x.f3.f2]:=by
 obtain⟨_,_,rfl,rfl,⟨_,_,rfl,rfl,⟨_,_,rfl,rfl,s3⟩⟩⟩:=h
 obtain rfl:=k53_open s3
 exact rfl
theorem k77_openM {w:World} {base:Nat} {ok:Nat→Prop} {x:S77} {cs:List Value} (h:k77.M w base ok x cs):cs=[.int .i64 x.f0,.int .i64 x.f1,.int .i64 x.f2,.int .i64 x.f3.f0,.int .i64 x.f3.f1,.int .i64 x.f3.f2]:=by
 obtain⟨_,_,rfl,rfl,⟨_,_,rfl,rfl,⟨_,_,rfl,rfl,s3⟩⟩⟩:=h
 obtain rfl:=k53_openM s3
 exact rfl
theorem k77_mkM (w:World) (base:Nat) (ok:Nat→Prop) (x:S77):k77.M w base ok x [.int .i64 x.f0,.int .i64 x.f1,.int .i64 x.f2,.int .i64 x.f3.f0,.int .i64 x.f3.f1,.int .i64 x.f3.f2]:=⟨[.int .i64 x.f0],[.int .i64 x.f1,.int .i64 x.f2,.int .i64 x.f3.f0,.int .i64 x.f3.f1,.int .i64 x.f3.f2],rfl,rfl,⟨[.int .i64 x.f1],[.int .i64 x.f2,.int .i64 x.f3.f0,.int .i64 x.f3.f1,.int .i64 x.f3.f2],rfl,rfl,⟨[.int .i64 x.f2],[.int .i64 x.f3.f0,.int .i64 x.f3.f1,.int .i64 x.f3.f2],rfl,rfl,(k53_mkM w base ok x.f3)⟩⟩⟩
def rd_T77 (xs:List S77) (i:Int):S77:=xs.getD i.toNat z77
theorem at_T77 {w:World} {A:Option Addr} {n:Nat} {xs:List S77} (h:Kd.C k77 w A n xs) (i:Int) (h0:0≤i) (h1:i<n):∃ad,A=some ad∧w.cell? (ad.add (i.toNat*6))=some (.int .i64 (rd_T77 xs i).f0)∧w.cell? ⟨(ad.add (i.toNat*6)).block,(ad.add (i.toNat*6)).off+1,none⟩=some (.int .i64 (rd_T77 xs i).f1)∧w.cell? ⟨(ad.add (i.toNat*6)).block,(ad.add (i.toNat*6)).off+2,none⟩=some (.int .i64 (rd_T77 xs i).f2)∧w.cell? ⟨(ad.add (i.toNat*6)).block,(ad.add (i.toNat*6)).off+3,none⟩=some (.int .i64 (rd_T77 xs i).f3.f0)∧w.cell? ⟨(ad.add (i.toNat*6)).block,(ad.add (i.toNat*6)).off+4,none⟩=some (.int .i64 (rd_T77 xs i).f3.f1)∧w.cell? ⟨(ad.add (i.toNat*6)).block,(ad.add (i.toNat*6)).off+5,none⟩=some (.int .i64 (rd_T77 xs i).f3.f2):=by
 obtain⟨ad,c,e,_,hK,hc0⟩:=Kd.C_get h z77 i h0 h1
 have hc:∀j u,c[j]? =some u→w.cell? (ad.add (i.toNat*6+j))=some u:=hc0
 obtain rfl:=k77_open hK
 exact⟨ad,e,hc 0 _ rfl,by rw[←add_field _ _ 1 (by omega)];exact hc 1 _ rfl,by rw[←add_field _ _ 2 (by omega)];exact hc 2 _ rfl,by rw[←add_field _ _ 3 (by omega)];exact hc 3 _ rfl,by rw[←add_field _ _ 4 (by omega)];exact hc 4 _ rfl,by rw[←add_field _ _ 5 (by omega)];exact hc 5 _ rfl⟩
structure S55 where
 f0:(List S77)
 f1:S53
def z55:S55:=⟨([]:List S77),z53⟩
def k55:Kd S55:=Kd.iso (Kd.pair (Kd.slice 77 k77) k53) (fun x:S55=>(x.f0,x.f1))
theorem k55_heap:Kd.Heap k55:=Kd.heap_iso _ (Kd.heap_pair (Kd.heap_slice 77 k77_heap) k53_heap)
theorem k55_open {w:World} {x:S55} {cs:List Value} (h:k55.K w x cs):∃A0 c0,cs=[.slice A0 x.f0.length c0,.int .i64 x.f1.f0,.int .i64 x.f1.f1,.int .i64 x.f1.f2]∧x.f0.length≤c0∧k77.C w A0 x.f0.length x.f0:=by
 obtain⟨_,_,rfl,⟨A0,c0,rfl,l0,g0⟩,s1⟩:=h
 obtain rfl:=k53_open s1
 exact⟨A0,c0,rfl,l0,g0⟩
theorem k55_openM {w:World} {base:Nat} {ok:Nat→Prop} {x:S55} {cs:List Value} (h:k55.M w base ok x cs):∃v0,cs=[v0,.int .i64 x.f1.f0,.int .i64 x.f1.f1,.int .i64 x.f1.f2]∧k77.R 77 w base ok v0 x.f0:=by
 obtain⟨_,_,rfl,⟨v0,rfl,g0⟩,s1⟩:=h
 obtain rfl:=k53_openM s1
 exact⟨v0,rfl,g0⟩
theorem k55_mkM (w:World) (base:Nat) (ok:Nat→Prop) (x:S55) {v0:Value} (g0:k77.R 77 w base ok v0 x.f0):k55.M w base ok x [v0,.int .i64 x.f1.f0,.int .i64 x.f1.f1,.int .i64 x.f1.f2]:=⟨[v0],[.int .i64 x.f1.f0,.int .i64 x.f1.f1,.int .i64 x.f1.f2],rfl,⟨v0,rfl,g0⟩,(k53_mkM w base ok x.f1)⟩
theorem k55_openF {W:World} {ok:Nat→Prop} {x:S55} {cs:List Value} (h:Kd.FK k55 W ok x cs):∃A0 c0,cs=[.slice A0 x.f0.length c0,.int .i64 x.f1.f0,.int .i64 x.f1.f1,.int .i64 x.f1.f2]∧x.f0.length≤c0∧Kd.F k77 W ok A0 x.f0.length x.f0:=by
 obtain⟨A0,c0,rfl,l0,_⟩:=k55_open (Kd.FK_now h)
 exact⟨A0,c0,rfl,l0,(fun W' hW=>by obtain⟨A0_,c0_,he,l0_,g0_⟩:=k55_open (h W' hW);injection (Zm (show some (Value.slice A0 x.f0.length c0)=some (Value.slice A0_ x.f0.length c0_) from congrArg (fun l=>l[0]?) he)) with ha_ _ _;rw[ha_];exact g0_)⟩
def rd_T55 (xs:List S55) (i:Int):S55:=xs.getD i.toNat z55
theorem at_T55 {w:World} {A:Option Addr} {n:Nat} {xs:List S55} (h:Kd.C k55 w A n xs) (i:Int) (h0:0≤i) (h1:i<n):∃ad A0 c0,A=some ad∧w.cell? (ad.add (i.toNat*4))=some (.slice A0 (rd_T55 xs i).f0.length c0)∧w.cell? ⟨(ad.add (i.toNat*4)).block,(ad.add (i.toNat*4)).off+1,none⟩=some (.int .i64 (rd_T55 xs i).f1.f0)∧w.cell? ⟨(ad.add (i.toNat*4)).block,(ad.add (i.toNat*4)).off+2,none⟩=some (.int .i64 (rd_T55 xs i).f1.f1)∧w.cell? ⟨(ad.add (i.toNat*4)).block,(ad.add (i.toNat*4)).off+3,none⟩=some (.int .i64 (rd_T55 xs i).f1.f2)∧(rd_T55 xs i).f0.length≤c0∧k77.C w A0 (rd_T55 xs i).f0.length (rd_T55 xs i).f0:=by
 obtain⟨ad,c,e,_,hK,hc0⟩:=Kd.C_get h z55 i h0 h1
 have hc:∀j u,c[j]? =some u→w.cell? (ad.add (i.toNat*4+j))=some u:=hc0
 obtain⟨A0,c0,rfl,l0,g0⟩:=k55_open hK
 exact⟨ad,A0,c0,e,hc 0 _ rfl,by rw[←add_field _ _ 1 (by omega)];exact hc 1 _ rfl,by rw[←add_field _ _ 2 (by omega)];exact hc 2 _ rfl,by rw[←add_field _ _ 3 (by omega)];exact hc 3 _ rfl,l0,g0⟩
structure S24 where
 f0:(List S68)
def k24:Kd S24:=Kd.iso (Kd.slice 68 k68) (fun x:S24=>x.f0)
theorem k24_open {w:World} {x:S24} {cs:List Value} (h:k24.K w x cs):∃A0 c0,cs=[.slice A0 x.f0.length c0]∧x.f0.length≤c0∧k68.C w A0 x.f0.length x.f0:=by
 obtain⟨A0,c0,rfl,l0,g0⟩:=h
 exact⟨A0,c0,rfl,l0,g0⟩
def gd66 (x:S66):Prop:=(Lit.int .i64 x.f0).wf=true∧(Lit.int .i64 x.f1).wf=true∧(Lit.int .i64 x.f2).wf=true
theorem opens66:Opening.Opens Tryz.prog 66 k66 gd66:=Opening.opens_struct Tryz.underlying66 (Opening.opensF_cons (Opening.opens_int Tryz.underlying3) rfl (by kernel_rfl) (Opening.opensF_cons (Opening.opens_int Tryz.underlying3) rfl (by kernel_rfl) (Opening.opensF_last (Opening.opens_int Tryz.underlying3) rfl (by kernel_rfl)))) (by kernel_rfl) _ (fun y=>(⟨y.1,y.2.1,y.2.2⟩:S66)) (fun _=>rfl)
def gd112 (x:S112):Prop:=(Lit.int .i64 x.f0).wf=true∧(Lit.int .i64 x.f1).wf=true∧(Lit.int .i64 x.f2).wf=true∧gd66 x.f3
theorem opens112:Opening.Opens Tryz.prog 112 k112 gd112:=Opening.opens_struct Tryz.underlying112 (Opening.opensF_cons (Opening.opens_int Tryz.underlying3) rfl (by kernel_rfl) (Opening.opensF_cons (Opening.opens_int Tryz.underlying3) rfl (by kernel_rfl) (Opening.opensF_cons (Opening.opens_int Tryz.underlying3) rfl (by kernel_rfl) (Opening.opensF_last opens66 rfl (by kernel_rfl))))) (by kernel_rfl) _ (fun y=>(⟨y.1,y.2.1,y.2.2.1,y.2.2.2⟩:S112)) (fun _=>rfl)
def gd68 (x:S68):Prop:=(x.f0.length≤maxLen∧∀y0∈x.f0,gd112 y0)∧gd66 x.f1
theorem opens68:Opening.Opens Tryz.prog 68 k68 gd68:=Opening.opens_struct Tryz.underlying68 (Opening.opensF_cons (Opening.opens_slice 112 Tryz.underlying65 (by kernel_rfl) opens112) rfl (by kernel_rfl) (Opening.opensF_last opens66 rfl (by kernel_rfl))) (by kernel_rfl) _ (fun y=>(⟨y.1,y.2⟩:S68)) (fun _=>rfl)
def gd24 (x:S24):Prop:=(x.f0.length≤maxLen∧∀y0∈x.f0,gd68 y0)
theorem opens24:Opening.Opens Tryz.prog 24 k24 gd24:=Opening.opens_struct Tryz.underlying24 (Opening.opensF_last (Opening.opens_slice 68 Tryz.underlying22 (by kernel_rfl) opens68) rfl (by kernel_rfl)) (by kernel_rfl) _ (fun y=>(⟨y⟩:S24)) (fun _=>rfl)
end Go.Proofs.YtccjlmpeogifkaaGreat.G
