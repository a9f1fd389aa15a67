/- Functions of the program as plain Lean functions, and that each call comes to its function's answer; written by a program of the session. No condition. -/
import Derived.Test.YtlolppaddphpoaaProg
import Derived.Below
import Derived.Deep.Draws
import Derived.Deep.AppendLies
import Derived.Maps.AppendAt
import Derived.OwnWalk
import Derived.Laws.BytesArg
import Derived.Laws.MakeOwn
import Derived.Laws.OwnMore
import Derived.Deep.OwnRows
import Derived.Tactics
import Derived.Lib.ConvBytes
import Derived.Laws.Slices
import Derived.WalkKit
import Derived.KernelRfl
import Derived.RowKit3
import Derived.Deep.LoopGhost
import Derived.Deep.QuietTactic
import Derived.BigQuiet
import Derived.WideLaws
import Derived.Deep.DeepCutAuto
import Derived.Deep.CutBlock
import Derived.Deep.RegionHeld3
import Derived.Laws.Rows
import Derived.Lib.AppendStr
import Derived.ArgAppend
import Derived.Laws.IdiomCopy
import Derived.OrdersHeld
import Derived.Laws.BitsLemmas
import Derived.RowKit
import Derived.Test.YtlolppaddphpoaaW0
import Derived.Test.YtlolppaddphpoaaOpen
import Derived.Test.YtlolppaddphpoaaSep
namespace Go.Proofs.Ytlolppaddphpoaa.G
open Go.RowKit Go.Proofs.YtlolppaddphpoaaW.PrintWords Go.Proofs.YtlolppaddphpoaaW.PrintLast Go.Proofs.YtlolppaddphpoaaW.PrintMore
attribute [local go_sem] max2_int min2_int max_two min_two max_three min_three max_four min_four   -- for this text's walks alone
set_option linter.unusedVariables false
set_option linter.unusedSimpArgs false
def errW:Option Int→Value
 |none=> .nilIface
 |some c=> .iface 0 (.int .i64 c)
theorem errW_none:errW none= .nilIface:=rfl
theorem errW_some (c:Int):errW (some c)= .iface 0 (.int .i64 c):=rfl
theorem info3:(Try.prog.info? 3).map (fun i=>(i.zero,i.size,i.bytes))=some (some (.int .i64 0),1,8):=by kernel_rfl
theorem info64:(Try.prog.info? 64).map (fun i=>(i.zero,i.size,i.bytes))=some (some (.agg #[(.slice none 0 0),(.int .i64 0),(.int .i64 0),(.int .i64 0)]),4,48):=by kernel_rfl
theorem info80:(Try.prog.info? 80).map (fun i=>(i.zero,i.size,i.bytes))=some (some (.agg #[(.int .i64 0),(.int .i64 0),(.int .i64 0),(.int .i64 0),(.int .i64 0),(.int .i64 0)]),6,48):=by kernel_rfl
-- the values' own types
structure S69 where
 f0:Int
 f1:Int
 f2:Int
def z69:S69:=⟨(0:Int),(0:Int),(0:Int)⟩
def k69:Kd S69:=Kd.iso (Kd.pair (Kd.int .i64) (Kd.pair (Kd.int .i64) (Kd.int .i64))) (fun x:S69=>(x.f0,x.f1,x.f2))
theorem k69_open {w:World} {x:S69} {cs:List Value} (h:k69.K w x cs):cs=[.int .i64 x.f0,.int .i64 x.f1,.int .i64 x.f2]:=by
 obtain⟨_,_,rfl,rfl,⟨_,_,rfl,rfl,rfl⟩⟩:=h
 exact rfl
structure S99 where
 f0:Int
 f1:Int
 f2:Int
 f3:S69
def z99:S99:=⟨(0:Int),(0:Int),(0:Int),z69⟩
def k99:Kd S99:=Kd.iso (Kd.pair (Kd.int .i64) (Kd.pair (Kd.int .i64) (Kd.pair (Kd.int .i64) k69))) (fun x:S99=>(x.f0,x.f1,x.f2,x.f3))
theorem k99_open {w:World} {x:S99} {cs:List Value} (h:k99.K w x cs):cs=[.int .i64 x.f0,.int .i64 x.f1,.int .i64 x.f2,.int .i64 x.f3.f0,.int .i64 x.f3.f1,.int .i64 x.f3.f2]:=by
 obtain⟨_,_,rfl,rfl,⟨_,_,rfl,rfl,⟨_,_,rfl,rfl,s3⟩⟩⟩:=h
 obtain rfl:=k69_open s3
 exact rfl
def rd_T99 (xs:List S99) (i:Int):S99:=xs.getD i.toNat z99
theorem at_T99 {w:World} {A:Option Addr} {n:Nat} {xs:List S99} (h:Kd.C k99 w A n xs) (i:Int) (h0:0≤i) (h1:i<n):∃ad,A=some ad∧w.cell? (ad.add (i.toNat*6))=some (.int .i64 (rd_T99 xs i).f0)∧w.cell? ⟨(ad.add (i.toNat*6)).block,(ad.add (i.toNat*6)).off+1,none⟩=some (.int .i64 (rd_T99 xs i).f1)∧w.cell? ⟨(ad.add (i.toNat*6)).block,(ad.add (i.toNat*6)).off+2,none⟩=some (.int .i64 (rd_T99 xs i).f2)∧w.cell? ⟨(ad.add (i.toNat*6)).block,(ad.add (i.toNat*6)).off+3,none⟩=some (.int .i64 (rd_T99 xs i).f3.f0)∧w.cell? ⟨(ad.add (i.toNat*6)).block,(ad.add (i.toNat*6)).off+4,none⟩=some (.int .i64 (rd_T99 xs i).f3.f1)∧w.cell? ⟨(ad.add (i.toNat*6)).block,(ad.add (i.toNat*6)).off+5,none⟩=some (.int .i64 (rd_T99 xs i).f3.f2):=by
 obtain⟨ad,c,e,_,hK,hc0⟩:=Kd.C_get h z99 i h0 h1
 have hc:∀j u,c[j]? =some u→w.cell? (ad.add (i.toNat*6+j))=some u:=hc0
 obtain rfl:=k99_open hK
 exact⟨ad,e,hc 0 _ rfl,by rw[←add_field _ _ 1 (by omega)];exact hc 1 _ rfl,by rw[←add_field _ _ 2 (by omega)];exact hc 2 _ rfl,by rw[←add_field _ _ 3 (by omega)];exact hc 3 _ rfl,by rw[←add_field _ _ 4 (by omega)];exact hc 4 _ rfl,by rw[←add_field _ _ 5 (by omega)];exact hc 5 _ rfl⟩
structure S71 where
 f0:(List S99)
 f1:S69
def z71:S71:=⟨([]:List S99),z69⟩
def k71:Kd S71:=Kd.iso (Kd.pair (Kd.slice 99 k99) k69) (fun x:S71=>(x.f0,x.f1))
theorem k71_open {w:World} {x:S71} {cs:List Value} (h:k71.K w x cs):∃A0 c0,cs=[.slice A0 x.f0.length c0,.int .i64 x.f1.f0,.int .i64 x.f1.f1,.int .i64 x.f1.f2]∧x.f0.length≤c0∧k99.C w A0 x.f0.length x.f0:=by
 obtain⟨_,_,rfl,⟨A0,c0,rfl,l0,g0⟩,s1⟩:=h
 obtain rfl:=k69_open s1
 exact⟨A0,c0,rfl,l0,g0⟩
def rd_T71 (xs:List S71) (i:Int):S71:=xs.getD i.toNat z71
theorem at_T71 {w:World} {A:Option Addr} {n:Nat} {xs:List S71} (h:Kd.C k71 w A n xs) (i:Int) (h0:0≤i) (h1:i<n):∃ad A0 c0,A=some ad∧w.cell? (ad.add (i.toNat*4))=some (.slice A0 (rd_T71 xs i).f0.length c0)∧w.cell? ⟨(ad.add (i.toNat*4)).block,(ad.add (i.toNat*4)).off+1,none⟩=some (.int .i64 (rd_T71 xs i).f1.f0)∧w.cell? ⟨(ad.add (i.toNat*4)).block,(ad.add (i.toNat*4)).off+2,none⟩=some (.int .i64 (rd_T71 xs i).f1.f1)∧w.cell? ⟨(ad.add (i.toNat*4)).block,(ad.add (i.toNat*4)).off+3,none⟩=some (.int .i64 (rd_T71 xs i).f1.f2)∧(rd_T71 xs i).f0.length≤c0∧k99.C w A0 (rd_T71 xs i).f0.length (rd_T71 xs i).f0:=by
 obtain⟨ad,c,e,_,hK,hc0⟩:=Kd.C_get h z71 i h0 h1
 have hc:∀j u,c[j]? =some u→w.cell? (ad.add (i.toNat*4+j))=some u:=hc0
 obtain⟨A0,c0,rfl,l0,g0⟩:=k71_open hK
 exact⟨ad,A0,c0,e,hc 0 _ rfl,by rw[←add_field _ _ 1 (by omega)];exact hc 1 _ rfl,by rw[←add_field _ _ 2 (by omega)];exact hc 2 _ rfl,by rw[←add_field _ _ 3 (by omega)];exact hc 3 _ rfl,l0,g0⟩
structure S62 where
 f0:Int
 f1:Int
 f2:Int
def z62:S62:=⟨(0:Int),(0:Int),(0:Int)⟩
def k62:Kd S62:=Kd.iso (Kd.pair (Kd.int .i64) (Kd.pair (Kd.int .i64) (Kd.int .i64))) (fun x:S62=>(x.f0,x.f1,x.f2))
theorem k62_open {w:World} {x:S62} {cs:List Value} (h:k62.K w x cs):cs=[.int .i64 x.f0,.int .i64 x.f1,.int .i64 x.f2]:=by
 obtain⟨_,_,rfl,rfl,⟨_,_,rfl,rfl,rfl⟩⟩:=h
 exact rfl
theorem k62_openM {w:World} {base:Nat} {ok:Nat→Prop} {x:S62} {cs:List Value} (h:k62.M w base ok x cs):cs=[.int .i64 x.f0,.int .i64 x.f1,.int .i64 x.f2]:=by
 obtain⟨_,_,rfl,rfl,⟨_,_,rfl,rfl,rfl⟩⟩:=h
 exact rfl
theorem k62_mkM (w:World) (base:Nat) (ok:Nat→Prop) (x:S62):k62.M w base ok x [.int .i64 x.f0,.int .i64 x.f1,.int .i64 x.f2]:=⟨[.int .i64 x.f0],[.int .i64 x.f1,.int .i64 x.f2],rfl,rfl,⟨[.int .i64 x.f1],[.int .i64 x.f2],rfl,rfl,rfl⟩⟩
structure S80 where
 f0:Int
 f1:Int
 f2:Int
 f3:S62
def z80:S80:=⟨(0:Int),(0:Int),(0:Int),z62⟩
def k80:Kd S80:=Kd.iso (Kd.pair (Kd.int .i64) (Kd.pair (Kd.int .i64) (Kd.pair (Kd.int .i64) k62))) (fun x:S80=>(x.f0,x.f1,x.f2,x.f3))
theorem k80_open {w:World} {x:S80} {cs:List Value} (h:k80.K w x cs):cs=[.int .i64 x.f0,.int .i64 x.f1,.int .i64 x.f2,.int .i64 x.f3.f0,.int .i64 x.f3.f1,.int .i64 x.f3.f2]:=by
 obtain⟨_,_,rfl,rfl,⟨_,_,rfl,rfl,⟨_,_,rfl,rfl,s3⟩⟩⟩:=h
 obtain rfl:=k62_open s3
 exact rfl
theorem k80_openM {w:World} {base:Nat} {ok:Nat→Prop} {x:S80} {cs:List Value} (h:k80.M w base ok x cs):cs=[.int .i64 x.f0,.int .i64 x.f1,.int .i64 x.f2,.int .i64 x.f3.f0,.int .i64 x.f3.f1,.int .i64 x.f3.f2]:=by
 obtain⟨_,_,rfl,rfl,⟨_,_,rfl,rfl,⟨_,_,rfl,rfl,s3⟩⟩⟩:=h
 obtain rfl:=k62_openM s3
 exact rfl
theorem k80_mkM (w:World) (base:Nat) (ok:Nat→Prop) (x:S80):k80.M w base ok x [.int .i64 x.f0,.int .i64 x.f1,.int .i64 x.f2,.int .i64 x.f3.f0,.int .i64 x.f3.f1,.int .i64 x.f3.f2]:=⟨[.int .i64 x.f0],[.int .i64 x.f1,.int .i64 x.f2,.int .i64 x.f3.f0,.int .i64 x.f3.f1,.int .i64 x.f3.f2],rfl,rfl,⟨[.int .i64 x.f1],[.int .i64 x.f2,.int .i64 x.f3.f0,.int .i64 x.f3.f1,.int .i64 x.f3.f2],rfl,rfl,⟨[.int .i64 x.f2],[.int .i64 x.f3.f0,.int .i64 x.f3.f1,.int .i64 x.f3.f2],rfl,rfl,(k62_mkM w base ok x.f3)⟩⟩⟩
def rd_T80 (xs:List S80) (i:Int):S80:=xs.getD i.toNat z80
theorem at_T80 {w:World} {A:Option Addr} {n:Nat} {xs:List S80} (h:Kd.C k80 w A n xs) (i:Int) (h0:0≤i) (h1:i<n):∃ad,A=some ad∧w.cell? (ad.add (i.toNat*6))=some (.int .i64 (rd_T80 xs i).f0)∧w.cell? ⟨(ad.add (i.toNat*6)).block,(ad.add (i.toNat*6)).off+1,none⟩=some (.int .i64 (rd_T80 xs i).f1)∧w.cell? ⟨(ad.add (i.toNat*6)).block,(ad.add (i.toNat*6)).off+2,none⟩=some (.int .i64 (rd_T80 xs i).f2)∧w.cell? ⟨(ad.add (i.toNat*6)).block,(ad.add (i.toNat*6)).off+3,none⟩=some (.int .i64 (rd_T80 xs i).f3.f0)∧w.cell? ⟨(ad.add (i.toNat*6)).block,(ad.add (i.toNat*6)).off+4,none⟩=some (.int .i64 (rd_T80 xs i).f3.f1)∧w.cell? ⟨(ad.add (i.toNat*6)).block,(ad.add (i.toNat*6)).off+5,none⟩=some (.int .i64 (rd_T80 xs i).f3.f2):=by
 obtain⟨ad,c,e,_,hK,hc0⟩:=Kd.C_get h z80 i h0 h1
 have hc:∀j u,c[j]? =some u→w.cell? (ad.add (i.toNat*6+j))=some u:=hc0
 obtain rfl:=k80_open hK
 exact⟨ad,e,hc 0 _ rfl,by rw[←add_field _ _ 1 (by omega)];exact hc 1 _ rfl,by rw[←add_field _ _ 2 (by omega)];exact hc 2 _ rfl,by rw[←add_field _ _ 3 (by omega)];exact hc 3 _ rfl,by rw[←add_field _ _ 4 (by omega)];exact hc 4 _ rfl,by rw[←add_field _ _ 5 (by omega)];exact hc 5 _ rfl⟩
structure S64 where
 f0:(List S80)
 f1:S62
def z64:S64:=⟨([]:List S80),z62⟩
def k64:Kd S64:=Kd.iso (Kd.pair (Kd.slice 80 k80) k62) (fun x:S64=>(x.f0,x.f1))
theorem k64_open {w:World} {x:S64} {cs:List Value} (h:k64.K w x cs):∃A0 c0,cs=[.slice A0 x.f0.length c0,.int .i64 x.f1.f0,.int .i64 x.f1.f1,.int .i64 x.f1.f2]∧x.f0.length≤c0∧k80.C w A0 x.f0.length x.f0:=by
 obtain⟨_,_,rfl,⟨A0,c0,rfl,l0,g0⟩,s1⟩:=h
 obtain rfl:=k62_open s1
 exact⟨A0,c0,rfl,l0,g0⟩
theorem k64_openM {w:World} {base:Nat} {ok:Nat→Prop} {x:S64} {cs:List Value} (h:k64.M w base ok x cs):∃v0,cs=[v0,.int .i64 x.f1.f0,.int .i64 x.f1.f1,.int .i64 x.f1.f2]∧k80.R 80 w base ok v0 x.f0:=by
 obtain⟨_,_,rfl,⟨v0,rfl,g0⟩,s1⟩:=h
 obtain rfl:=k62_openM s1
 exact⟨v0,rfl,g0⟩
theorem k64_mkM (w:World) (base:Nat) (ok:Nat→Prop) (x:S64) {v0:Value} (g0:k80.R 80 w base ok v0 x.f0):k64.M w base ok x [v0,.int .i64 x.f1.f0,.int .i64 x.f1.f1,.int .i64 x.f1.f2]:=⟨[v0],[.int .i64 x.f1.f0,.int .i64 x.f1.f1,.int .i64 x.f1.f2],rfl,⟨v0,rfl,g0⟩,(k62_mkM w base ok x.f1)⟩
def rd_T64 (xs:List S64) (i:Int):S64:=xs.getD i.toNat z64
theorem at_T64 {w:World} {A:Option Addr} {n:Nat} {xs:List S64} (h:Kd.C k64 w A n xs) (i:Int) (h0:0≤i) (h1:i<n):∃ad A0 c0,A=some ad∧w.cell? (ad.add (i.toNat*4))=some (.slice A0 (rd_T64 xs i).f0.length c0)∧w.cell? ⟨(ad.add (i.toNat*4)).block,(ad.add (i.toNat*4)).off+1,none⟩=some (.int .i64 (rd_T64 xs i).f1.f0)∧w.cell? ⟨(ad.add (i.toNat*4)).block,(ad.add (i.toNat*4)).off+2,none⟩=some (.int .i64 (rd_T64 xs i).f1.f1)∧w.cell? ⟨(ad.add (i.toNat*4)).block,(ad.add (i.toNat*4)).off+3,none⟩=some (.int .i64 (rd_T64 xs i).f1.f2)∧(rd_T64 xs i).f0.length≤c0∧k80.C w A0 (rd_T64 xs i).f0.length (rd_T64 xs i).f0:=by
 obtain⟨ad,c,e,_,hK,hc0⟩:=Kd.C_get h z64 i h0 h1
 have hc:∀j u,c[j]? =some u→w.cell? (ad.add (i.toNat*4+j))=some u:=hc0
 obtain⟨A0,c0,rfl,l0,g0⟩:=k64_open hK
 exact⟨ad,A0,c0,e,hc 0 _ rfl,by rw[←add_field _ _ 1 (by omega)];exact hc 1 _ rfl,by rw[←add_field _ _ 2 (by omega)];exact hc 2 _ rfl,by rw[←add_field _ _ 3 (by omega)];exact hc 3 _ rfl,l0,g0⟩
structure S24 where
 f0:(List S71)
def k24:Kd S24:=Kd.iso (Kd.slice 71 k71) (fun x:S24=>x.f0)
theorem k24_open {w:World} {x:S24} {cs:List Value} (h:k24.K w x cs):∃A0 c0,cs=[.slice A0 x.f0.length c0]∧x.f0.length≤c0∧k71.C w A0 x.f0.length x.f0:=by
 obtain⟨A0,c0,rfl,l0,g0⟩:=h
 exact⟨A0,c0,rfl,l0,g0⟩
def gd69 (x:S69):Prop:=(Lit.int .i64 x.f0).wf=true∧(Lit.int .i64 x.f1).wf=true∧(Lit.int .i64 x.f2).wf=true
theorem opens69:Opening.Opens Try.prog 69 k69 gd69:=Opening.opens_struct Try.underlying69 (Opening.opensF_cons (Opening.opens_int Try.underlying3) rfl (by kernel_rfl) (Opening.opensF_cons (Opening.opens_int Try.underlying3) rfl (by kernel_rfl) (Opening.opensF_last (Opening.opens_int Try.underlying3) rfl (by kernel_rfl)))) (by kernel_rfl) _ (fun y=>(⟨y.1,y.2.1,y.2.2⟩:S69)) (fun _=>rfl)
def gd99 (x:S99):Prop:=(Lit.int .i64 x.f0).wf=true∧(Lit.int .i64 x.f1).wf=true∧(Lit.int .i64 x.f2).wf=true∧gd69 x.f3
theorem opens99:Opening.Opens Try.prog 99 k99 gd99:=Opening.opens_struct Try.underlying99 (Opening.opensF_cons (Opening.opens_int Try.underlying3) rfl (by kernel_rfl) (Opening.opensF_cons (Opening.opens_int Try.underlying3) rfl (by kernel_rfl) (Opening.opensF_cons (Opening.opens_int Try.underlying3) rfl (by kernel_rfl) (Opening.opensF_last opens69 rfl (by kernel_rfl))))) (by kernel_rfl) _ (fun y=>(⟨y.1,y.2.1,y.2.2.1,y.2.2.2⟩:S99)) (fun _=>rfl)
def gd71 (x:S71):Prop:=(x.f0.length≤maxLen∧∀y0∈x.f0,gd99 y0)∧gd69 x.f1
theorem opens71:Opening.Opens Try.prog 71 k71 gd71:=Opening.opens_struct Try.underlying71 (Opening.opensF_cons (Opening.opens_slice 99 Try.underlying68 (by kernel_rfl) opens99) rfl (by kernel_rfl) (Opening.opensF_last opens69 rfl (by kernel_rfl))) (by kernel_rfl) _ (fun y=>(⟨y.1,y.2⟩:S71)) (fun _=>rfl)
def gd24 (x:S24):Prop:=(x.f0.length≤maxLen∧∀y0∈x.f0,gd71 y0)
theorem opens24:Opening.Opens Try.prog 24 k24 gd24:=Opening.opens_struct Try.underlying24 (Opening.opensF_last (Opening.opens_slice 71 Try.underlying22 (by kernel_rfl) opens71) rfl (by kernel_rfl)) (by kernel_rfl) _ (fun y=>(⟨y⟩:S24)) (fun _=>rfl)
end Go.Proofs.Ytlolppaddphpoaa.G
