/- Functions of the program as plain Lean functions, and that each call comes to its function's answer; written by a program of the session. No condition. -/
import Derived.Test.YtjgfldbogjipiaaGreatGx0
import Derived.Test.YtjgfldbogjipiaaGreatGx2
namespace Go.Proofs.YtjgfldbogjipiaaGreat.G
open Go.RowKit Go.Proofs.YtjgfldbogjipiaaGreatW.PrintWords Go.Proofs.YtjgfldbogjipiaaGreatW.PrintLast Go.Proofs.YtjgfldbogjipiaaGreatW.PrintMore
attribute [local go_sem] max2_int min2_int max_two min_two max_three min_three max_four min_four   -- for this text's walks alone
set_option linter.unusedVariables false
set_option linter.unusedSimpArgs false
theorem z3_0 {P:Prop} (h:P:=by(try simp only[Yt,List.map_cons,List.map_nil]);first|done|rfl|(simp only[List.length_drop,List.length_take];rfl)):P:=h
theorem z3_1 {P:Prop} (h:P:=by repeat(first|(with_reducible first|exact HK.out|apply KeepBut.set_|apply keep_drewN|apply keep_drew|apply keep_alloc)|exact HK.out)):P:=h
theorem z3_2 {P:Prop} (h:P:=by repeat(first|(with_reducible first|exact HK.out|apply KeepBut.set_|apply keep_drewN|apply keep_drew|apply keep_alloc|refine keep_far ?_ GW296.out _)|exact HK.out)):P:=h
theorem z3_3 {P:Prop} (h:P:=by repeat(first|(with_reducible first|exact HI0.out|apply IsS82.alloc|apply IsS82.drewN|apply IsS82.drew|apply IsS82.set_1|apply IsS82.set_2|refine IsS82.far ?_ NB0_296.out _)|exact HI0.out)):P:=h
theorem z3_4 {P:Prop} (h:P:=by repeat(first|(with_reducible first|exact HB.out|apply Zh|apply Zf|apply Ze|refine Zd ?_ (IsS82.ge HI0.out))|exact HB.out)):P:=h
theorem z3_5 {P:Prop} (h:P:=by repeat(first|(with_reducible first|exact HI0.out|apply IsS82.alloc|apply IsS82.drewN|apply IsS82.drew|apply IsS82.set_1|apply IsS82.set_2)|exact HI0.out)):P:=h
theorem z3_6 {P:Prop} (h:P:=by repeat(first|(with_reducible first|exact HB.out|apply Zh|apply Zf|apply Ze|refine Zd ?_ (IsS82.ge HI0.out)|refine Zd ?_ GE296.out)|exact HB.out)):P:=h
theorem z3_7 {P:Prop} (h:P:=by repeat(first|(with_reducible first|exact HB.out|apply Zh|apply Zf|apply Ze)|exact HB.out)):P:=h
theorem z3_8 {P:Prop} (h:P:=by(with_reducible repeat(first|refine blk_drewN ?_ _|refine blk_drew ?_|refine blk_alloc ?_ _));exact BK296.out):P:=h
theorem z3_9 {P:Prop} (h:P:=by repeat(first|(with_reducible first|exact HK.out|apply KeepBut.set_|apply keep_drewN|apply keep_drew|apply keep_alloc|refine keep_far ?_ GW247.out _|refine keep_far ?_ GW248.out _)|exact HK.out)):P:=h
theorem z3_10 {P:Prop} (h:P:=by(with_reducible repeat(first|refine blk_drewN ?_ _|refine blk_drew ?_|refine blk_alloc ?_ _));exact BK329.out):P:=h
theorem z3_11 {P:Prop} (h:P:=by repeat(first|(with_reducible first|exact HI0.out|apply IsS82.alloc|apply IsS82.drewN|apply IsS82.drew|apply IsS82.set_1|apply IsS82.set_2|refine IsS82.far ?_ NB0_247.out _|refine IsS82.far ?_ NB0_248.out _)|exact HI0.out)):P:=h
theorem z3_12 {P:Prop} (h:P:=by repeat(first|(with_reducible first|exact HB.out|apply Zh|apply Zf|apply Ze|refine Zd ?_ (IsS82.ge HI0.out)|refine Zd ?_ GE247.out|refine Zd ?_ GE248.out)|exact HB.out)):P:=h
theorem z3_13 {P:Prop} (h:P:=by first|(with_reducible assumption)|assumption):P:=h
theorem z3_14 {P:Prop} (h:P:=by repeat(first|(with_reducible first|exact HB.out|apply Zh|apply Zf|apply Ze|refine Zd ?_ (IsS82.ge HI333.out)|refine Zd ?_ GE329.out)|exact HB.out)):P:=h
theorem z3_15 {P:Prop} (h:P:=by(with_reducible repeat(first|refine blk_drewN ?_ _|refine blk_drew ?_|refine blk_alloc ?_ _));exact BK247.out):P:=h
theorem z3_16 {P:Prop} (h:P:=by repeat(first|(with_reducible first|exact HI333.out|apply IsS82.alloc|apply IsS82.drewN|apply IsS82.drew|apply IsS82.set_1|apply IsS82.set_2|refine IsS82.far ?_ NB333_329.out _|refine IsS82.far ?_ NB333_339.out _)|exact HI333.out)):P:=h
theorem z3_17 {P:Prop} (h:P:=by repeat(first|(with_reducible first|exact HB.out|apply Zh|apply Zf|apply Ze|refine Zd ?_ (IsS82.ge HI333.out)|refine Zd ?_ GE329.out|refine Zd ?_ GE339.out)|exact HB.out)):P:=h
theorem z3_18 {P:Prop} (h:P:=by(with_reducible repeat(first|apply Zm|apply Zl|apply Zj));exact HO_3.out):P:=h
theorem z3_19 {P:Prop} (h:P:=by first|(go_simp;done)|(go_simp;rfl)):P:=h
theorem z3_20 {P:Prop} (h:P:=by(with_reducible repeat(first|apply Zm|apply Zl|apply Zj));exact HO_5.out):P:=h
theorem z3_21 {P:Prop} (h:P:=by first|rfl|(simp;done)|(simp[*];done)):P:=h
theorem z3_22 {P:Prop} (h:P:=by(with_reducible repeat(first|refine blk_drewN ?_ _|refine blk_drew ?_|refine blk_alloc ?_ _));exact BK248.out):P:=h
theorem z3_23 {P:Prop} (h:P:=by kernel_rfl):P:=h
theorem z3_24 {P:Prop} (h:P:=by repeat(first|(with_reducible first|exact HK.out|apply KeepBut.set_|apply keep_drewN|apply keep_drew|apply keep_alloc|refine keep_far ?_ GW247.out _)|exact HK.out)):P:=h
theorem z3_25 {P:Prop} (h:P:=by(with_reducible repeat(first|apply Kd.S_alloc|apply Kd.S_drewN|apply Kd.S_drew));exact HO_249000.out):P:=h
theorem z3_26 {P:Prop} (h:P:=by(with_reducible repeat(first|apply Kd.S_alloc|apply Kd.S_drewN|apply Kd.S_drew));exact HO336.out):P:=h
theorem z3_27 {P:Prop} (h:P:=by(with_reducible repeat(first|apply Kd.S_alloc|apply Kd.S_drewN|apply Kd.S_drew));exact(Kd.S_mono (Kd.S_far (p:=⟨gb339,0,none⟩) (Kd.S_types HO336.out BK339.out (by decide)) (fun _ hk=>hk.2) (.slice Ao13 t334.length co13)) (fun _ h_=>h_.1))):P:=h
theorem z3_28 {P:Prop} (h:P:=by rw[hg];exact Nat.ne_of_lt (IsS82.lt (show IsS82 w0 _ g s0_0 s0_1 s0_2 from by repeat(first|(with_reducible first|exact HI0.out|apply IsS82.alloc|apply IsS82.drewN|apply IsS82.drew|apply IsS82.set_1|apply IsS82.set_2)|exact HI0.out)))):P:=h
theorem z3_29 {P:Prop} (h:P:=by rw[hg];exact Nat.ne_of_gt (IsS82.lt (show IsS82 w0 _ g s0_0 s0_1 s0_2 from by repeat(first|(with_reducible first|exact HI0.out|apply IsS82.alloc|apply IsS82.drewN|apply IsS82.drew|apply IsS82.set_1|apply IsS82.set_2)|exact HI0.out)))):P:=h
theorem z3_30 {P:Prop} (h:P:=by(with_reducible repeat(first|refine blk_drewN ?_ _|refine blk_drew ?_|refine blk_alloc ?_ _));exact BK339.out):P:=h
theorem z3_31 {P:Prop} (h:P:=by decide):P:=h
theorem z3_32 {P:Prop} (h:P:=by repeat(first|(with_reducible first|exact HI333.out|apply IsS82.alloc|apply IsS82.drewN|apply IsS82.drew|apply IsS82.set_1|apply IsS82.set_2|refine IsS82.far ?_ NB333_329.out _)|exact HI333.out)):P:=h
def spec_l06Program.l0:Nat→Int→List Int→Int→Int→List (S74)→Option ((List (S74))×Int×Int)
 |0,_,_,_,_,_=>none
 |k+1,x4,x1000,x1001,x1002,x249000=>(spec_l01Below.f x1000 x1001 x1002 3).bind fun bt249=>(if x4<(wrap64 (1+bt249.1)) then ((spec_l05Case.f k x1000 bt249.2.1 bt249.2.2).bind fun bt252=>((spec_l03Expr.f x1000 bt252.2.1 bt252.2.2).bind fun bt257=>(if x249000.length<2932031007402 then (spec_l06Program.l0 k (wrap64 (x4+1)) x1000 bt257.2.2.2.1 bt257.2.2.2.2 (x249000++[(⟨bt252.1,(⟨bt257.1,bt257.2.1,bt257.2.2.1⟩:S72)⟩:S74)])) else (none)))) else (some (x249000,bt249.2.1,bt249.2.2)))
def spec_l06Program.f (k:Nat) (s0_0:List Int) (s0_1:Int) (s0_2:Int):Option ((List (S74))×Int×Int):=spec_l06Program.l0 k 0 s0_0 s0_1 s0_2 ([]:List (S74))
theorem spec_l06Program.mono_l:∀k,(∀y0 y1 y2 y3 y4,LeO (spec_l06Program.l0 k y0 y1 y2 y3 y4) (spec_l06Program.l0 (k+1) y0 y1 y2 y3 y4))
 |0=>fun _ _ _ _ _ r h=>by simp[spec_l06Program.l0] at h
 |k+1=>by
  have ih0:=spec_l06Program.mono_l k
  ·intro y0 y1 y2 y3 y4
   unfold spec_l06Program.l0
   repeat' first
   |(with_reducible exact ih0 _ _ _ _ _)
   |(with_reducible exact spec_l05Case.mono _ _ _ _)
   |(with_reducible exact Yj _)
   |(with_reducible exact Ya _)
   |(with_reducible refine Zz ?_ ?_)
   |(with_reducible refine Zx ?_ (fun _=> ?_))
   |exact ih0 _ _ _ _ _
   |exact spec_l05Case.mono _ _ _ _
   |exact Ya _
   |refine Zz ?_ ?_
   |refine Zx ?_ (fun _=> ?_)
theorem spec_l06Program.mono:∀a0 a1 a2 k,LeO (spec_l06Program.f k a0 a1 a2) (spec_l06Program.f (k+1) a0 a1 a2):=by
 intro a0 a1 a2 k
 have ih0:=spec_l06Program.mono_l k
 unfold spec_l06Program.f
 repeat' first
   |(with_reducible exact ih0 _ _ _ _ _)
   |(with_reducible exact spec_l05Case.mono _ _ _ _)
   |(with_reducible exact Yj _)
   |(with_reducible exact Ya _)
   |(with_reducible refine Zz ?_ ?_)
   |(with_reducible refine Zx ?_ (fun _=> ?_))
   |exact ih0 _ _ _ _ _
   |exact spec_l05Case.mono _ _ _ _
   |exact Ya _
   |refine Zz ?_ ?_
   |refine Zx ?_ (fun _=> ?_)
def spec_l06Program.T5:Bool×List (List Nat×List Nat):=(true,[([],[]),([0],[0]),([],[]),([2],[2]),([],[]),([4,3],[4]),([3,5],[3,5]),([6],[6]),([1,7,5],[1,7]),([0,1,2,3,4,5,6,7,8],[]),([9,8,8,0,1,2,3,4,5,6,7,8],[8,9])])
def spec_l06Program.B5:List Nat:=[0,1,0,4,0,28,60,124,255,511,1023]
theorem spec_l06Program.tab5:rtab .any (opsOf Tryz.f32 5)=spec_l06Program.T5:=by kernel_rfl
theorem spec_l06Program.bits5:waitsOk spec_l06Program.T5.2 spec_l06Program.B5=true:=by kernel_rfl
set_option maxHeartbeats 8000000 in
set_option maxRecDepth 100000 in
theorem spec_l06Program.calls (k:Nat) (g:Nat) (s0_0:List Int) (s0_1:Int) (s0_2:Int) (r1:List (S74)) (r2:Int) (r3:Int) (w0 w:World) (hI:IsS82 w0 w g s0_0 s0_1 s0_2) (hB:Below w0.heap.size w0 w) (h:spec_l06Program.f k s0_0 s0_1 s0_2=some (r1,r2,r3)):
  Calls Tryz.prog 32 #[.pointer (some ⟨g,0,none⟩)] w fun e w'=>∃v0_:Value,e= .returned (.agg #[v0_])∧Kd.S k74 74 w' w.heap.size (fun _=>True) v0_ r1∧IsS82 w0 w' g s0_0 r2 r3∧Below w0.heap.size w0 w'∧KeepBut w w' g none:=by
 have hu26:=Tryz.underlying26
 have hu74:=Tryz.underlying74
 have HI0:=Za hI
 have HK:=Za (KeepBut.refl w g none)
 have HL:=Za hB.size
 clear hI
 have HW0:=Za hB.size
 have HB:=Za hB
 clear hB
 have H:(spec_l06Program.l0 k 0 s0_0 s0_1 s0_2 ([]:List (S74)))=some (r1,r2,r3):=h
 clear h
 have H':=Za H
 clear H
 go_enter Tryz.func32,Tryz.ntmps32
 go_wp2_with (first|((with_reducible refine Zr (N:=2) rfl ?_);refine Zy ?hg (N:=2) ?hd (cs:= #[.slice none 0 0]) (t:=26) ?hr ?_;(case hd=>rfl);(case hg=>rfl);(case hr=>exact z3_19);intro gb247 hg w2 hbox hb;replace HB:=Za (Zk z3_4 hb);have BK247:=Za (hbox);have GW247:=Za ((by rw[hg];exact(keep_size (w:=w) (g:=g) (row:=none) z3_1):w.heap.size≤gb247));have GE247:=Za ((Nat.le_trans HW0.out (by rw[hg];exact(keep_size (w:=w) (g:=g) (row:=none) z3_1):w.heap.size≤gb247):w0.heap.size≤gb247));replace HK:=Za (KeepBut.trans z3_1 (KeepBut.of_below hb g none) (.inl rfl));have NB0_247:=Za ((z3_28:g≠gb247));have NB247_0:=Za ((z3_29:gb247≠g));replace HI0:=Za (IsS82.below z3_5 hb);clear hb hbox hg)|((with_reducible refine Zr (N:=3) rfl ?_);refine Zy ?hg (N:=3) ?hd (cs:= #[.slice none 0 0]) (t:=26) ?hr ?_;(case hd=>rfl);(case hg=>rfl);(case hr=>exact z3_19);intro gb248 hg w3 hbox hb;replace HB:=Za (Zk (by repeat(first|(with_reducible first|exact HB.out|apply Zh|apply Zf|apply Ze|refine Zd ?_ (IsS82.ge HI0.out)|refine Zd ?_ GE247.out)|exact HB.out)) hb);have BK248:=Za (hbox);have GW248:=Za ((by rw[hg];exact(keep_size (w:=w) (g:=g) (row:=none) z3_24):w.heap.size≤gb248));have GE248:=Za ((Nat.le_trans HW0.out (by rw[hg];exact(keep_size (w:=w) (g:=g) (row:=none) z3_24):w.heap.size≤gb248):w0.heap.size≤gb248));replace HK:=Za (KeepBut.trans z3_24 (KeepBut.of_below hb g none) (.inl rfl));have NB247_248:=Za ((by rw[hg];exact Nat.ne_of_lt (blk_lt (g:=gb247) (o:= .cells #[.slice none 0 0] 26 (0,0)) z3_15):gb247≠gb248));have NB248_247:=Za ((by rw[hg];exact Nat.ne_of_gt (blk_lt (g:=gb247) (o:= .cells #[.slice none 0 0] 26 (0,0)) z3_15):gb248≠gb247));replace BK247:=Za (Zi (g:=gb247) (o:= .cells #[.slice none 0 0] 26 (0,0)) z3_15 hb);have NB0_248:=Za ((by rw[hg];exact Nat.ne_of_lt (IsS82.lt (show IsS82 w0 _ g s0_0 s0_1 s0_2 from by repeat(first|(with_reducible first|exact HI0.out|apply IsS82.alloc|apply IsS82.drewN|apply IsS82.drew|apply IsS82.set_1|apply IsS82.set_2|refine IsS82.far ?_ NB0_247.out _)|exact HI0.out))):g≠gb248));have NB248_0:=Za ((by rw[hg];exact Nat.ne_of_gt (IsS82.lt (show IsS82 w0 _ g s0_0 s0_1 s0_2 from by repeat(first|(with_reducible first|exact HI0.out|apply IsS82.alloc|apply IsS82.drewN|apply IsS82.drew|apply IsS82.set_1|apply IsS82.set_2|refine IsS82.far ?_ NB0_247.out _)|exact HI0.out))):gb248≠g));replace HI0:=Za (IsS82.below (by repeat(first|(with_reducible first|exact HI0.out|apply IsS82.alloc|apply IsS82.drewN|apply IsS82.drew|apply IsS82.set_1|apply IsS82.set_2|refine IsS82.far ?_ NB0_247.out _)|exact HI0.out)) hb);clear hb hbox hg;have hnb4:=NB248_247.out;have hnc4:=NB247_248.out;have hnb5:=NB248_0.out;have hnc5:=NB0_248.out;have hcz6_0:w3.cell? ⟨gb248,0,none⟩=some (.slice none 0 0):=(Zb BK248.out 0).trans rfl;have hfz6_0:=Zc BK248.out 0))
 go_loopg [4] k (fun kq v4 w'=>∃(x4_1:Int) (x1001_1:Int) (x1002_1:Int) (x249000_1:List (S74)) (u249000:Value),v4= .int .i64 x4_1∧Aside0 (spec_l06Program.l0 kq x4_1 s0_0 x1001_1 x1002_1 x249000_1=some (r1,r2,r3))∧Aside0 (kq≤k)∧Aside0 (Kd.S k74 74 w' w.heap.size (fun _=>True) u249000 x249000_1)∧Aside0 (w'.heap[gb247]? =some (.cells #[(.slice none 0 0)] 26 (0,0)))∧Aside0 (w'.heap[gb248]? =some (.cells #[u249000] 26 (0,0)))∧Aside0 (IsS82 w0 w' g s0_0 x1001_1 x1002_1)∧Aside0 (KeepBut w w' g none)∧Aside0 (Below w0.heap.size w0 w'))
 case atStart=>exact⟨(0),(s0_1),(s0_2),(([]:List (S74))),(.slice none 0 0),z3_21,H',⟨Nat.le_refl _⟩,⟨by first|exact Kd.S_nil _ _ _ _ _|exact Kd.N_nil _ _ _ _ _|exact Kd.V_nil _ _ _ _ _|exact Kd.Q_nil _ _ _ _ _|exact Kd.R_nil _ _ _ _ _⟩,⟨by(with_reducible repeat(first|refine blk_drewN ?_ _|refine blk_drew ?_|refine blk_alloc ?_ _));refine blk_far ?_ NB247_248.out _;(with_reducible repeat(first|refine blk_drewN ?_ _|refine blk_drew ?_|refine blk_alloc ?_ _));exact BK247.out⟩,⟨by(with_reducible repeat(first|refine blk_drewN ?_ _|refine blk_drew ?_|refine blk_alloc ?_ _));refine blk_put (cs:= #[.slice none 0 0]) ?_ 0 _ rfl;(with_reducible repeat(first|refine blk_drewN ?_ _|refine blk_drew ?_|refine blk_alloc ?_ _));exact BK248.out⟩,⟨by repeat(first|(with_reducible first|exact HI0.out|apply IsS82.alloc|apply IsS82.drewN|apply IsS82.drew|apply IsS82.set_1|apply IsS82.set_2|refine IsS82.far ?_ NB0_247.out _|refine IsS82.far ?_ NB0_248.out _)|exact HI0.out)⟩,⟨by repeat(first|(with_reducible first|exact HK.out|apply KeepBut.set_|apply keep_drewN|apply keep_drew|apply keep_alloc|refine keep_far ?_ GW247.out _|refine keep_far ?_ GW248.out _)|exact HK.out)⟩,⟨by repeat(first|(with_reducible first|exact HB.out|apply Zh|apply Zf|apply Ze|refine Zd ?_ (IsS82.ge HI0.out)|refine Zd ?_ GE247.out|refine Zd ?_ GE248.out)|exact HB.out)⟩⟩
 case round=>
  clear H'
  (try clear hcz6_0);(try clear hfz6_0)
  obtain⟨x4_1,x1001_1,x1002_1,x249000_1,u249000,rfl,HA,HK1,HO_249000,BK247,BK248,HI0,HK,HB⟩:=hrel
  cases gk with
  |zero=>exact absurd HA.out (by simp[spec_l06Program.l0])
  |succ k1=>
   have H:=HA.out
   clear HA
   simp only[spec_l06Program.l0] at H
   replace H:=Zg H
   obtain⟨⟨t249,t250,t251⟩,A70,H⟩:=H
   replace H:(if x4_1<(wrap64 (1+t249)) then ((spec_l05Case.f k1 s0_0 t250 t251).bind fun bt252=>((spec_l03Expr.f s0_0 bt252.2.1 bt252.2.2).bind fun bt257=>(if x249000_1.length<2932031007402 then (spec_l06Program.l0 k1 (wrap64 (x4_1+1)) s0_0 bt257.2.2.2.1 bt257.2.2.2.2 (x249000_1++[(⟨bt252.1,(⟨bt257.1,bt257.2.1,bt257.2.2.1⟩:S72)⟩:S74)])) else (none)))) else (some (x249000_1,t250,t251)))=some (r1,r2,r3):=H
   have A7:=Za A70
   clear A70
   by_cases c8:x4_1<(wrap64 (1+t249))
   ·rw[if_pos c8] at H
    have c8b0:decide (x4_1<(wrap64 (1+t249)))=true:=Zo c8
    clear c8
    replace H:=Zg H
    obtain⟨⟨t252,t255,t256⟩,A90,H⟩:=H
    replace H:((spec_l03Expr.f s0_0 t255 t256).bind fun bt257=>(if x249000_1.length<2932031007402 then (spec_l06Program.l0 k1 (wrap64 (x4_1+1)) s0_0 bt257.2.2.2.1 bt257.2.2.2.2 (x249000_1++[(⟨t252,(⟨bt257.1,bt257.2.1,bt257.2.2.1⟩:S72)⟩:S74)])) else (none)))=some (r1,r2,r3):=H
    have A9:=Za A90
    clear A90
    replace H:=Zg H
    obtain⟨⟨t257,t258,t259,t260,t261⟩,A100,H⟩:=H
    replace H:(if x249000_1.length<2932031007402 then (spec_l06Program.l0 k1 (wrap64 (x4_1+1)) s0_0 t260 t261 (x249000_1++[(⟨t252,(⟨t257,t258,t259⟩:S72)⟩:S74)])) else (none))=some (r1,r2,r3):=H
    have A10:=Za A100
    clear A100
    by_cases c11:x249000_1.length<2932031007402
    ·rw[if_pos c11] at H
     have LMc11:=Za c11
     clear c11
     obtain⟨y262,hy262⟩:∃y_:List (S74),y_=(x249000_1++[(⟨t252,(⟨t257,t258,t259⟩:S72)⟩:S74)]):=⟨_,rfl⟩
     replace H:(spec_l06Program.l0 k1 (wrap64 (x4_1+1)) s0_0 t260 t261 y262)=some (r1,r2,r3):=by first|(rw[hy262];with_reducible exact H)|(have H2_:=(Yd _ _).symm.trans H;rw[hy262];with_reducible exact H2_)|(have H2_:=(Yd _ _).symm.trans H;with_reducible exact H2_)|with_reducible exact H|(rw[hy262];exact H)|exact H
     have Ny262:=Za hy262
     clear hy262
     have H':=Za H
     clear H
     try go_wp2_with (first|((first|((with_reducible refine gate_callee (f:=38) rfl ?_);refine goesL_ (some 8) rfl rfl Tryz.func38 z3_23 rfl #[.pointer (some ⟨g,0,none⟩),.int .i64 3] rfl z3_0 ?_;(with_reducible refine(spec_l01Below.calls g s0_0 x1001_1 x1002_1 3 t249 t250 t251 w0 _ ?side1 ?side2 A7.out).mono ?_))|(go_at_call 38;(with_reducible refine(spec_l01Below.calls g s0_0 x1001_1 x1002_1 3 t249 t250 t251 w0 _ ?side1 ?side2 A7.out).mono ?_)));(case side1=>exact z3_11);(case side2=>exact z3_12);rintro e w12 ⟨rfl,hi,hb,hk⟩;(first|refine⟨_,rfl,?_⟩|skip);replace HO_249000:=Za (Kd.S_mono (Kd.S_keep (IsS82.apartS (show IsS82 w0 _ g s0_0 x1001_1 x1002_1 from by repeat(first|(with_reducible first|exact HI0.out|apply IsS82.alloc|apply IsS82.drewN|apply IsS82.drew|apply IsS82.set_1|apply IsS82.set_2|refine IsS82.far ?_ NB0_247.out _|refine IsS82.far ?_ NB0_248.out _)|exact HI0.out)) z3_25 z3_31) hk (fun _ h=>h.2)) (fun _ h=>h.1));replace BK247:=Za (KeepBut.blk hk (g':=gb247) (o:= .cells #[.slice none 0 0] 26 (0,0)) z3_15 NB247_0.out (by simp));replace BK248:=Za (KeepBut.blk hk (g':=gb248) (o:= .cells #[u249000] 26 (0,0)) z3_22 NB248_0.out (by simp));replace HK:=Za (KeepBut.trans z3_9 hk (.inl rfl));replace HB:=Za (hb);replace HI0:=Za (hi);(try clear hb);(try clear hb2);(try clear hk);(try clear hi)))
     have n0_:=Za (Kd.S_drew HO_249000.out)
     have n1_:=Za (blk_drew BK247.out)
     have n2_:=Za (blk_drew BK248.out)
     have n3_:=Za (IsS82.drew HI0.out)
     have n4_:=Za (keep_drew HK.out)
     have n5_:=Za (Ze HB.out)
     clear HO_249000
     clear BK247
     clear BK248
     clear HI0
     clear HK
     clear HB
     have HO_249000:=n0_
     have BK247:=n1_
     have BK248:=n2_
     have HI0:=n3_
     have HK:=n4_
     have HB:=n5_
     clear n0_ n1_ n2_ n3_ n4_ n5_
     refine start_ (n:=11) (S:=fun w'=>w'.cell? ⟨gb248,0,none⟩=some (u249000)) (ds:=[10]) #[false,false,false,false,false,false,false,false,false,false,false] z3_23 rfl rfl ((Zb BK248.out 0).trans rfl) (fun hHeld=> ?_);refine with_tabW spec_l06Program.tab5 spec_l06Program.bits5 (fun HT_ HW_=> ?_)
     generalize w12.drew=w13 at HO_249000 BK247 BK248 HI0 HK HB hHeld ⊢
     refine pure_ (i:=0) (N:=some 13) (v:= ?_) (a':= ?_) #[true,false,false,false,false,false,false,false,false,false,false] rfl rfl (any_of HT_.out z3_23) (fun _ _ _ h=>h) (Or.inl ⟨by rfl,?_⟩) ?_ ?_
     rotate_left
     ·intro w'
      go_simp
      with_reducible rfl
     rotate_left
     ·simp only[Act.put,Zs,Zt,Zu,i64_w,i32_w]
      rfl
     refine pure_ (i:=2) (N:=some 15) (v:= ?_) (a':= ?_) #[true,false,true,false,false,false,false,false,false,false,false] rfl rfl (any_of HT_.out z3_23) (fun _ _ _ h=>h) (Or.inl ⟨by rfl,?_⟩) ?_ ?_
     rotate_left
     ·intro w'
      go_simp
      with_reducible rfl
     rotate_left
     ·simp only[Act.put,Zs,Zt,Zu,i64_w,i32_w]
      rfl
     refine pure_ (i:=4) (N:=some 17) (v:= ?_) (a':= ?_) #[true,false,true,false,true,false,false,false,false,false,false] rfl rfl (any_of HT_.out z3_23) (fun _ _ _ h=>h) (Or.inl ⟨by rfl,?_⟩) ?_ ?_
     rotate_left
     ·intro w'
      go_simp
      with_reducible rfl
     rotate_left
     ·simp only[Act.put,Zs,Zt,Zu,i64_w,i32_w]
      rfl
     refine take_ (i:=1) (N:=some 14) (v:= ?_) (a':= ?_) #[true,true,true,false,true,false,false,false,false,false,false] rfl rfl (take_ofW HT_.out HW_.out z3_23) (fun _ _ _ h=>h) (Or.inl ⟨by rfl,?_⟩) hHeld ?_ ?_
     rotate_left
     ·intro w' s0
      go_simp
      with_reducible rfl
     rotate_left
     ·simp only[Act.put,Zs,Zt,Zu,i64_w,i32_w]
      rfl
     refine one_ (i:=3) (N:=some 16) #[true,true,true,true,true,false,false,false,false,false,false] rfl rfl (one_of HT_.out z3_23) z3_31 (fun K hK=> ?_)
     refine goes_ Tryz.func58 z3_23 rfl #[.pointer (some ⟨g,0,none⟩)] (by rfl) rfl rfl z3_0 ?_
     with_reducible refine(spec_l05Case.calls k1 g s0_0 t250 t251 t252 t255 t256 w0 _ ?side1 ?side2 A9.out).mono ?_
     (case side1=>exact z3_11)
     (case side2=>exact z3_12)
     rintro e w14 ⟨v253,rfl,ho0,hi,hb,hk⟩
     refine⟨_,rfl,?_⟩
     have n0_:=Za (Kd.S_mono (Kd.S_told (Kd.S_oldK (IsS82.apartS (show IsS82 w0 _ g s0_0 t250 t251 from by repeat(first|(with_reducible first|exact HI0.out|apply IsS82.alloc|apply IsS82.drewN|apply IsS82.drew|apply IsS82.set_1|apply IsS82.set_2|refine IsS82.far ?_ NB0_247.out _|refine IsS82.far ?_ NB0_248.out _)|exact HI0.out)) z3_25 z3_31) hk) (Ye ho0)) (fun _ h_=>h_.1))
     have n1_:=Za (KeepBut.blk hk (g':=gb247) (o:= .cells #[.slice none 0 0] 26 (0,0)) z3_15 NB247_0.out (by simp))
     have n2_:=Za (KeepBut.blk hk (g':=gb248) (o:= .cells #[u249000] 26 (0,0)) z3_22 NB248_0.out (by simp))
     have n3_:=Za (Yr ho0 (keep_size (w:=w) (g:=g) (row:=none) z3_9))
     have n4_:=Za (KeepBut.trans z3_9 hk (.inl rfl))
     have n5_:=Za (hb)
     have n6_:=Za (hi)
     clear HO_249000
     clear BK247
     clear BK248
     clear HK
     clear HB
     clear HI0
     have HO_249000:=n0_
     have BK247:=n1_
     have BK248:=n2_
     have HO254:=n3_
     have HK:=n4_
     have HB:=n5_
     have HI0:=n6_
     clear n0_ n1_ n2_ n3_ n4_ n5_ n6_
     (try clear hb)
     (try clear hb2)
     (try clear hk)
     (try clear hi)
     (try clear ho0)
     refine hK.out _ _ ((Zb BK248.out 0).trans rfl) (fun hHeld=> ?_)
     clear hK K
     refine norm_ (a':= ?_) ?_ ?_
     rotate_left
     ·show Act.put _ (some 16) _=_
      simp only[Act.put,Zs,Zt,Zu,i64_w,i32_w]
      rfl
     refine one_ (i:=5) (N:=some 18) #[true,true,true,true,true,true,false,false,false,false,false] rfl rfl (one_of HT_.out z3_23) z3_31 (fun K hK=> ?_)
     refine goes_ Tryz.func59 z3_23 rfl #[.pointer (some ⟨g,0,none⟩)] (by rfl) rfl rfl z3_0 ?_
     with_reducible refine(spec_l03Expr.calls g s0_0 t255 t256 t257 t258 t259 t260 t261 w0 _ ?side1 ?side2 A10.out).mono ?_
     (case side1=>exact z3_11)
     (case side2=>exact z3_12)
     rintro e w15 ⟨rfl,hi,hb,hk⟩
     refine⟨_,rfl,?_⟩
     have n0_:=Za (Kd.S_mono (Kd.S_keep (IsS82.apartS (show IsS82 w0 _ g s0_0 t255 t256 from by repeat(first|(with_reducible first|exact HI0.out|apply IsS82.alloc|apply IsS82.drewN|apply IsS82.drew|apply IsS82.set_1|apply IsS82.set_2|refine IsS82.far ?_ NB0_247.out _|refine IsS82.far ?_ NB0_248.out _)|exact HI0.out)) z3_25 z3_31) hk (fun _ h=>h.2)) (fun _ h=>h.1))
     have n1_:=Za (KeepBut.blk hk (g':=gb247) (o:= .cells #[.slice none 0 0] 26 (0,0)) z3_15 NB247_0.out (by simp))
     have n2_:=Za (KeepBut.blk hk (g':=gb248) (o:= .cells #[u249000] 26 (0,0)) z3_22 NB248_0.out (by simp))
     have n3_:=Za (Yc (Kd.R_keep (IsS82.apart (show IsS82 w0 _ g s0_0 t255 t256 from by repeat(first|(with_reducible first|exact HI0.out|apply IsS82.alloc|apply IsS82.drewN|apply IsS82.drew|apply IsS82.set_1|apply IsS82.set_2|refine IsS82.far ?_ NB0_247.out _|refine IsS82.far ?_ NB0_248.out _)|exact HI0.out)) (by(with_reducible repeat(first|apply Zm|apply Zl|apply Zj));exact HO254.out) z3_31) hk (fun _ h=>h.2)) (fun _ h=>h.1))
     have n4_:=Za (KeepBut.trans z3_9 hk (.inl rfl))
     have n5_:=Za (hb)
     have n6_:=Za (hi)
     clear HO_249000
     clear BK247
     clear BK248
     clear HO254
     clear HK
     clear HB
     clear HI0
     have HO_249000:=n0_
     have BK247:=n1_
     have BK248:=n2_
     have HO254:=n3_
     have HK:=n4_
     have HB:=n5_
     have HI0:=n6_
     clear n0_ n1_ n2_ n3_ n4_ n5_ n6_
     (try clear hb)
     (try clear hb2)
     (try clear hk)
     (try clear hi)
     obtain⟨Ao16,co16,eo16⟩:=Yn HO254.out
     (first|subst eo16|(injection eo16 with f1_ f2_ f3_;have f4_:=f1_.symm;have f5_:=f3_.symm;clear f1_ f2_ f3_;subst f4_;subst f5_))
     refine hK.out _ _ ((Zb BK248.out 0).trans rfl) (fun hHeld=> ?_)
     clear hK K
     refine norm_ (a':= ?_) ?_ ?_
     rotate_left
     ·show Act.put _ (some 18) _=_
      simp only[Act.put,Zs,Zt,Zu,i64_w,i32_w]
      rfl
     refine pure_ (i:=6) (N:=some 19) (v:= ?_) (a':= ?_) #[true,true,true,true,true,true,true,false,false,false,false] rfl rfl (any_of HT_.out z3_23) (fun _ _ _ h=>h) (Or.inl ⟨by rfl,?_⟩) ?_ ?_
     rotate_left
     ·intro w'
      go_simp
      with_reducible rfl
     rotate_left
     ·simp only[Act.put,Zs,Zt,Zu,i64_w,i32_w]
      rfl
     refine one_ (i:=7) (N:=some 20) #[true,true,true,true,true,true,true,true,false,false,false] rfl rfl (one_of HT_.out z3_23) z3_31 (fun K hK=> ?_)
     refine value_ (w1:= ?_) (v:= ?_) (by rfl) rfl ?_ ?_
     rotate_left 2
     ·go_simp
      constructor
      ·rfl
      ·rfl
     refine hK.out _ _ ((Zb (blk_alloc BK248.out _) 0).trans rfl) (fun hHeld=> ?_)
     clear hK K
     refine norm_ (a':= ?_) ?_ ?_
     rotate_left
     ·show Act.put _ (some 20) _=_
      simp only[Act.put,Zs,Zt,Zu,i64_w,i32_w]
      rfl
     refine one_ (i:=8) (N:=some 21) #[true,true,true,true,true,true,true,true,true,false,false] rfl rfl (one_of HT_.out z3_23) z3_31 (fun K hK=> ?_)
     refine Kd.S_append_step k74 w.heap.size (by rfl) (.tmp 14) (.tmp 20) 24 74 (.agg #[(.slice none 0 0),(.int .i64 0),(.int .i64 0),(.int .i64 0)]) 48 rfl Tryz.underlying24 info74 rfl z3_31 (by omega) u249000 x249000_1 (⟨t252,(⟨t257,t258,t259⟩:S72)⟩:S74) [.slice Ao16 t252.length co16,.int .i64 t257,.int .i64 t258,.int .i64 t259] (fun _=>True) (fun k_=>some k_=(.slice Ao16 t252.length co16:Value).ownBlock) rfl rfl ?aP (fun k_ hk_=>((Yc (ok':=fun k_=>((fun _=>True)) k_∧some k_≠(u249000:Value).ownBlock) (Kd.R_apart' (HO254.out) (Kd.S_typed HO_249000.out) z3_31) (fun k_ hk=>⟨trivial,hk.2⟩))).1 k_ hk_.symm) ?aF ?aO (Yb _ _) ?aS ?aL ?_
     (case aP=>exact k74_mkM _ _ _ (⟨t252,(⟨t257,t258,t259⟩:S72)⟩:S74) (Yc (Kd.R_tight rfl (Yc (ok':=fun k_=>((fun _=>True)) k_∧some k_≠(u249000:Value).ownBlock) (Kd.R_apart' (HO254.out) (Kd.S_typed HO_249000.out) z3_31) (fun k_ hk=>⟨trivial,hk.2⟩))) (fun _ h_=>h_)))
     (case aF=>exact(fun _ _=>trivial))
     (case aO=>exact(by(with_reducible repeat(first|apply Kd.S_alloc|apply Kd.S_drewN|apply Kd.S_drew));exact Kd.S_mono HO_249000.out (fun k_ hk=>⟨trivial,fun e_=>hk.2 e_⟩)))
     (case aS=>exact(keep_size (w:=w) (g:=g) (row:=none) z3_9))
     (case aL=>have:=LMc11.out;omega)
     intro v263 w17 ho hb hg hat
     rw[←Ny262.out] at ho
     have n0_:=Za (blk_grown (g:=gb247) (o:= .cells #[.slice none 0 0] 26 (0,0)) z3_15 hg (Kd.S_ne HO_249000.out BK247.out z3_31))
     have n1_:=Za (blk_grown (g:=gb248) (o:= .cells #[u249000] 26 (0,0)) z3_22 hg (Kd.S_ne HO_249000.out BK248.out z3_31))
     have n2_:=Za (IsS82.grown z3_11 hg (IsS82.own_neS HI0.out HO_249000.out z3_31))
     have n3_:=Za (below_weaken z3_12 HL.out hb)
     have n4_:=Za (KeepBut.trans z3_9 (KeepBut.of_grown hg g) (Kd.S_base2 HO_249000.out))
     have n5_:=Za (ho)
     clear BK247
     clear BK248
     clear HI0
     clear HB
     clear HK
     clear HO_249000
     clear HO254
     have BK247:=n0_
     have BK248:=n1_
     have HI0:=n2_
     have HB:=n3_
     have HK:=n4_
     have HO264:=n5_
     clear n0_ n1_ n2_ n3_ n4_ n5_
     clear ho hb hg hat
     obtain⟨Ao18,co18,eo18⟩:=Kd.S_slice HO264.out
     (first|subst eo18|(injection eo18 with f1_ f2_ f3_;have f4_:=f1_.symm;have f5_:=f3_.symm;clear f1_ f2_ f3_;subst f4_;subst f5_))
     refine hK.out _ _ ((Zb BK248.out 0).trans rfl) (fun hHeld=> ?_)
     clear hK K
     refine norm_ (a':= ?_) ?_ ?_
     rotate_left
     ·show Act.put _ (some 21) _=_
      simp only[Act.put,Zs,Zt,Zu,i64_w,i32_w]
      rfl
     refine pure_ (i:=9) (N:=some 22) (v:= ?_) (a':= ?_) #[true,true,true,true,true,true,true,true,true,true,false] rfl rfl (any_of HT_.out z3_23) (fun _ _ _ h=>h) (Or.inl ⟨by rfl,?_⟩) ?_ ?_
     rotate_left
     ·intro w'
      go_simp
      with_reducible rfl
     rotate_left
     ·simp only[Act.put,Zs,Zt,Zu,i64_w,i32_w]
      rfl
     refine last_ (i:=10) (N:=none) #[true,true,true,true,true,true,true,true,true,true,true] rfl rfl (one_of HT_.out z3_23) z3_31 (fun K hK=> ?_)
     have hs19:w17.cell? ⟨gb248,0,none⟩=some (u249000):=(Zb BK248.out 0).trans rfl
     have hfs19:=Zc BK248.out 0
     have hns19_0:=NB247_248.out
     have hms19_0:=NB248_247.out
     refine skip_ (w1:= ?_) (by rfl) rfl ?_ ?_
     rotate_left
     ·go_simp
      rfl
     refine hK.out _ _ ?_
     clear hK K
     refine done_ (done_of HT_.out z3_23) ?_
     try go_wp2
     go_roundg k1
     case measure=>have:=HK1.out;omega
     case rel=>exact⟨(wrap64 (x4_1+1)),(t260),(t261),(y262),(.slice Ao18 y262.length co18),z3_21,H',⟨by have:=HK1.out;omega⟩,⟨by(with_reducible repeat(first|apply Kd.S_alloc|apply Kd.S_drewN|apply Kd.S_drew));exact Kd.S_mono (Kd.S_far (p:=⟨gb248,0,none⟩) (Kd.S_types HO264.out BK248.out z3_31) (fun _ hk=>hk.2) (.slice Ao18 y262.length co18)) (fun _ hk=>trivial)⟩,⟨by(with_reducible repeat(first|refine blk_drewN ?_ _|refine blk_drew ?_|refine blk_alloc ?_ _));refine blk_far ?_ NB247_248.out _;(with_reducible repeat(first|refine blk_drewN ?_ _|refine blk_drew ?_|refine blk_alloc ?_ _));exact BK247.out⟩,⟨by(with_reducible repeat(first|refine blk_drewN ?_ _|refine blk_drew ?_|refine blk_alloc ?_ _));refine blk_put (cs:= #[u249000]) ?_ 0 _ rfl;(with_reducible repeat(first|refine blk_drewN ?_ _|refine blk_drew ?_|refine blk_alloc ?_ _));exact BK248.out⟩,⟨by repeat(first|(with_reducible first|exact HI0.out|apply IsS82.alloc|apply IsS82.drewN|apply IsS82.drew|apply IsS82.set_1|apply IsS82.set_2|refine IsS82.far ?_ NB0_247.out _|refine IsS82.far ?_ NB0_248.out _)|exact HI0.out)⟩,⟨by repeat(first|(with_reducible first|exact HK.out|apply KeepBut.set_|apply keep_drewN|apply keep_drew|apply keep_alloc|refine keep_far ?_ GW247.out _|refine keep_far ?_ GW248.out _)|exact HK.out)⟩,⟨by repeat(first|(with_reducible first|exact HB.out|apply Zh|apply Zf|apply Ze|refine Zd ?_ (IsS82.ge HI0.out)|refine Zd ?_ GE247.out|refine Zd ?_ GE248.out)|exact HB.out)⟩⟩
    ·rw[if_neg c11] at H
     exact absurd H (by simp)
   ·rw[if_neg c8] at H
    have c8b0:decide (x4_1<(wrap64 (1+t249)))=false:=Yg c8
    clear c8
    simp only[Option.some.injEq,Prod.mk.injEq] at H
    obtain⟨rfl,rfl,rfl⟩:=H
    go_wp2_with (first|((first|((with_reducible refine gate_callee (f:=38) rfl ?_);refine goesL_ (some 8) rfl rfl Tryz.func38 z3_23 rfl #[.pointer (some ⟨g,0,none⟩),.int .i64 3] rfl z3_0 ?_;(with_reducible refine(spec_l01Below.calls g s0_0 x1001_1 x1002_1 3 t249 t250 t251 w0 _ ?side1 ?side2 A7.out).mono ?_))|(go_at_call 38;(with_reducible refine(spec_l01Below.calls g s0_0 x1001_1 x1002_1 3 t249 t250 t251 w0 _ ?side1 ?side2 A7.out).mono ?_)));(case side1=>exact z3_11);(case side2=>exact z3_12);rintro e w20 ⟨rfl,hi,hb,hk⟩;(first|refine⟨_,rfl,?_⟩|skip);replace HO_249000:=Za (Kd.S_mono (Kd.S_keep (IsS82.apartS (show IsS82 w0 _ g s0_0 x1001_1 x1002_1 from by repeat(first|(with_reducible first|exact HI0.out|apply IsS82.alloc|apply IsS82.drewN|apply IsS82.drew|apply IsS82.set_1|apply IsS82.set_2|refine IsS82.far ?_ NB0_247.out _|refine IsS82.far ?_ NB0_248.out _)|exact HI0.out)) z3_25 z3_31) hk (fun _ h=>h.2)) (fun _ h=>h.1));replace BK247:=Za (KeepBut.blk hk (g':=gb247) (o:= .cells #[.slice none 0 0] 26 (0,0)) z3_15 NB247_0.out (by simp));replace BK248:=Za (KeepBut.blk hk (g':=gb248) (o:= .cells #[u249000] 26 (0,0)) z3_22 NB248_0.out (by simp));replace HK:=Za (KeepBut.trans z3_9 hk (.inl rfl));replace HB:=Za (hb);replace HI0:=Za (hi);(try clear hb);(try clear hb2);(try clear hk);(try clear hi);have hnb21:=NB248_247.out;have hnc21:=NB247_248.out;have hnb22:=NB248_0.out;have hnc22:=NB0_248.out;have hcz23_0:w20.cell? ⟨gb248,0,none⟩=some (u249000):=(Zb BK248.out 0).trans rfl;have hfz23_0:=Zc BK248.out 0;obtain⟨Ao24,co24,eo24⟩:=Kd.S_slice HO_249000.out;subst eo24;have hnb25:=NB247_0.out;have hnc25:=NB0_247.out;have hcz26_0:w20.cell? ⟨gb247,0,none⟩=some (.slice none 0 0):=(Zb BK247.out 0).trans rfl;have hfz26_0:=Zc BK247.out 0))
    refine bodyPost_ret (results_cell_row rfl _ _ gb247 26 #[.slice Ao24 x249000_1.length co24] (0,0) _ rfl (by(with_reducible repeat(first|refine blk_drewN ?_ _|refine blk_drew ?_|refine blk_alloc ?_ _));refine blk_put (cs:= #[.slice none 0 0]) ?_ 0 _ rfl;(with_reducible repeat(first|refine blk_drewN ?_ _|refine blk_drew ?_|refine blk_alloc ?_ _));exact BK247.out) Tryz.underlying26 rfl z3_23) rfl ?_
    exact⟨_,by first|rfl|(simp[errW_none,errW_some]<;>rfl)|(simp[*,errW_none,errW_some]<;>rfl)|(simp[*,errW_none,errW_some,i64_w];done),by(with_reducible repeat(first|apply Kd.S_alloc|apply Kd.S_drewN|apply Kd.S_drew));exact Kd.S_mono (Kd.S_far (p:=⟨gb247,0,none⟩) (Kd.S_types HO_249000.out BK247.out z3_31) (fun _ hk=>hk.2) (.slice Ao24 x249000_1.length co24)) (fun _ hk=>trivial),by repeat(first|(with_reducible first|exact HI0.out|apply IsS82.alloc|apply IsS82.drewN|apply IsS82.drew|apply IsS82.set_1|apply IsS82.set_2|refine IsS82.far ?_ NB0_247.out _|refine IsS82.far ?_ NB0_248.out _)|exact HI0.out),by repeat(first|(with_reducible first|exact HB.out|apply Zh|apply Zf|apply Ze|refine Zd ?_ (IsS82.ge HI0.out)|refine Zd ?_ GE247.out|refine Zd ?_ GE248.out)|exact HB.out),by repeat(first|(with_reducible first|exact HK.out|apply KeepBut.set_|apply keep_drewN|apply keep_drew|apply keep_alloc|refine keep_far ?_ GW247.out _|refine keep_far ?_ GW248.out _)|exact HK.out)⟩
def spec_IsValue.f (a0:Int):Option (Bool):=(spec_l01In.f a0 (-1000000) 1000000).bind fun t265=>(some t265)
set_option maxHeartbeats 8000000 in
set_option maxRecDepth 100000 in
theorem spec_IsValue.calls (a0:Int) (r:Bool) (w:World) (h:spec_IsValue.f a0=some r):
  Calls Tryz.prog 88 #[.int .i64 a0] w fun e w'=>e= .returned (.bool r)∧Drawn0 w w':=by
 have H:((spec_l01In.f a0 (-1000000) 1000000).bind fun t265=>(some t265))=some r:=h
 clear h
 replace H:=Zg H
 obtain⟨t265,A20,H⟩:=H
 replace H:(some t265)=some r:=H
 have A2:=Za A20
 clear A20
 obtain rfl:=Zn H
 go_enter Tryz.func88,Tryz.ntmps88
 go_wp2_with (first|((first|((with_reducible refine gate_callee (f:=55) rfl ?_);refine goesL_ (some 4) rfl rfl Tryz.func55 z3_23 rfl #[.int .i64 a0,.int .i64 (-1000000),.int .i64 1000000] rfl z3_0 ?_;(with_reducible refine(spec_l01In.calls a0 (-1000000) 1000000 t265 _ A2.out).mono ?_))|(go_at_call 55;(with_reducible refine(spec_l01In.calls a0 (-1000000) 1000000 t265 _ A2.out).mono ?_)));rintro e w' ⟨rfl,⟨nd,rfl⟩⟩;(first|refine⟨_,rfl,?_⟩|skip)))
 go_ret
 exact⟨by first|rfl|(simp;done)|(simp[*];done),by repeat(first|exact Zv _|apply Zw)⟩
def spec_VarsOk.l0:Nat→List Int→Int→Option (Bool)
 |0,_,_=>none
 |k+1,x0,x3=>if x3<(x0.length:Int) then (if 0≤x3 then ((spec_IsValue.f (rd x0 x3)).bind fun t267=>(if t267=true then (spec_VarsOk.l0 k x0 (wrap64 (x3+1))) else (some false))) else (none)) else (some ((x0.length:Int)==8))
def spec_VarsOk.f (k:Nat) (l0:List Int):Option (Bool):=spec_VarsOk.l0 k l0 0
theorem spec_VarsOk.mono_l:∀k,(∀y0 y1,LeO (spec_VarsOk.l0 k y0 y1) (spec_VarsOk.l0 (k+1) y0 y1))
 |0=>fun _ _ r h=>by simp[spec_VarsOk.l0] at h
 |k+1=>by
  have ih0:=spec_VarsOk.mono_l k
  ·intro y0 y1
   unfold spec_VarsOk.l0
   repeat' first
   |(with_reducible exact ih0 _ _)
   |(with_reducible exact Yj _)
   |(with_reducible exact Ya _)
   |(with_reducible refine Zz ?_ ?_)
   |(with_reducible refine Zx ?_ (fun _=> ?_))
   |exact ih0 _ _
   |exact Ya _
   |refine Zz ?_ ?_
   |refine Zx ?_ (fun _=> ?_)
theorem spec_VarsOk.mono:∀a0 k,LeO (spec_VarsOk.f k a0) (spec_VarsOk.f (k+1) a0):=by
 intro a0 k
 have ih0:=spec_VarsOk.mono_l k
 unfold spec_VarsOk.f
 repeat' first
   |(with_reducible exact ih0 _ _)
   |(with_reducible exact Yj _)
   |(with_reducible exact Ya _)
   |(with_reducible refine Zz ?_ ?_)
   |(with_reducible refine Zx ?_ (fun _=> ?_))
   |exact ih0 _ _
   |exact Ya _
   |refine Zz ?_ ?_
   |refine Zx ?_ (fun _=> ?_)
set_option maxHeartbeats 8000000 in
set_option maxRecDepth 100000 in
theorem spec_VarsOk.calls (k:Nat) (A0:Option Addr) (c0:Nat) (l0:List Int) (r:Bool) (w:World) (hr0:Kd.C (Kd.int .i64) w A0 l0.length l0) (hc0:l0.length≤c0) (h:spec_VarsOk.f k l0=some r):
  Calls Tryz.prog 54 #[.slice A0 l0.length c0] w fun e w'=>e= .returned (.bool r)∧Drawn0 w w':=by
 have HR0:=Za hr0
 have HC0:=Za hc0
 clear hr0 hc0
 have H:(spec_VarsOk.l0 k l0 0)=some r:=h
 clear h
 have H':=Za H
 clear H
 go_enter Tryz.func54,Tryz.ntmps54
 go_wp2
 go_loopg [3] k (fun kq v3 w'=>∃(x3_1:Int),v3= .int .i64 x3_1∧Aside0 (spec_VarsOk.l0 kq l0 x3_1=some r)∧Aside0 (kq≤k)∧Drawn0 w w')
 case atStart=>exact⟨(0),z3_21,H',⟨Nat.le_refl _⟩,by repeat(first|exact Zv _|apply Zw)⟩
 case round=>
  clear H'
  obtain⟨x3_1,rfl,HA,HK1,⟨m1,rfl⟩⟩:=hrel
  cases gk with
  |zero=>exact absurd HA.out (by simp[spec_VarsOk.l0])
  |succ k1=>
   have H:=HA.out
   clear HA
   simp only[spec_VarsOk.l0] at H
   by_cases c2:x3_1<(l0.length:Int)
   ·rw[if_pos c2] at H
    have c2b0:decide (x3_1<(l0.length:Int))=true:=Zo c2
    clear c2
    by_cases c3:0≤x3_1
    ·rw[if_pos c3] at H
     have c3b0:decide (0≤x3_1)=true:=Zo c3
     clear c3
     replace H:=Zg H
     obtain⟨t267,A40,H⟩:=H
     replace H:(if t267=true then (spec_VarsOk.l0 k1 l0 (wrap64 (x3_1+1))) else (some false))=some r:=H
     have A4:=Za A40
     clear A40
     by_cases c5:t267=true
     ·subst c5
      rw[if_pos rfl] at H
      have H':=Za H
      clear H
      have p266:0≤(x3_1:Int):=Zq z3_13
      have q266:x3_1<(l0.length:Int):=Zq z3_13
      obtain⟨ad266,e266,hx266_0⟩:=Kd.at_int HR0.out x3_1 p266 q266
      cases e266
      replace p266:=eq_true p266
      replace q266:=eq_true q266
      go_wp2_with (first|((first|((with_reducible refine gate_callee (f:=88) rfl ?_);refine goesL_ (some 14) rfl rfl Tryz.func88 z3_23 rfl #[.int .i64 (rd l0 x3_1)] rfl z3_0 ?_;(with_reducible refine(spec_IsValue.calls (rd l0 x3_1) true _ A4.out).mono ?_))|(go_at_call 88;(with_reducible refine(spec_IsValue.calls (rd l0 x3_1) true _ A4.out).mono ?_)));rintro e w' ⟨rfl,⟨nd,rfl⟩⟩;(first|refine⟨_,rfl,?_⟩|skip)))
      go_roundg k1
      case measure=>have:=HK1.out;omega
      case rel=>exact⟨(wrap64 (x3_1+1)),z3_21,H',⟨by have:=HK1.out;omega⟩,by repeat(first|exact Zv _|apply Zw)⟩
     ·replace c5:=Bool.eq_false_iff.mpr c5
      subst c5
      rw[if_neg (show ¬(false=true) by decide)] at H
      obtain rfl:=Zn H
      have p266:0≤(x3_1:Int):=Zq z3_13
      have q266:x3_1<(l0.length:Int):=Zq z3_13
      obtain⟨ad266,e266,hx266_0⟩:=Kd.at_int HR0.out x3_1 p266 q266
      cases e266
      replace p266:=eq_true p266
      replace q266:=eq_true q266
      go_wp2_with (first|((first|((with_reducible refine gate_callee (f:=88) rfl ?_);refine goesL_ (some 14) rfl rfl Tryz.func88 z3_23 rfl #[.int .i64 (rd l0 x3_1)] rfl z3_0 ?_;(with_reducible refine(spec_IsValue.calls (rd l0 x3_1) false _ A4.out).mono ?_))|(go_at_call 88;(with_reducible refine(spec_IsValue.calls (rd l0 x3_1) false _ A4.out).mono ?_)));rintro e w' ⟨rfl,⟨nd,rfl⟩⟩;(first|refine⟨_,rfl,?_⟩|skip)))
      go_ret
      exact⟨by first|rfl|(simp;done)|(simp[*];done),by repeat(first|exact Zv _|apply Zw)⟩
    ·rw[if_neg c3] at H
     exact absurd H (by simp)
   ·rw[if_neg c2] at H
    have c2b0:decide (x3_1<(l0.length:Int))=false:=Yg c2
    clear c2
    obtain rfl:=Zn H
    go_wp2
    go_ret
    exact⟨by first|rfl|(simp;done)|(simp[*];done),by repeat(first|exact Zv _|apply Zw)⟩
def spec_MemNew.f (k:Nat) (l0:List Int):Option (List Int×Bool):=(spec_VarsOk.f k l0).bind fun t268=>(if t268=true then ((some (([]:List Int):List Int)).bind fun y269=>(if y269.length+l0.length<17592186044416 then ((some (y269++l0:List Int)).bind fun y272=>(if y272.length+41<17592186044416 then (some ((y272++List.replicate 41 0),true)) else (none))) else (none))) else (some ((([]:List Int)),false)))
theorem spec_MemNew.mono:∀a0 k,LeO (spec_MemNew.f k a0) (spec_MemNew.f (k+1) a0):=by
 intro a0 k
 unfold spec_MemNew.f
 repeat' first
   |(with_reducible exact spec_VarsOk.mono _ _)
   |(with_reducible exact Yj _)
   |(with_reducible exact Ya _)
   |(with_reducible refine Zz ?_ ?_)
   |(with_reducible refine Zx ?_ (fun _=> ?_))
   |exact spec_VarsOk.mono _ _
   |exact Ya _
   |refine Zz ?_ ?_
   |refine Zx ?_ (fun _=> ?_)
set_option maxHeartbeats 8000000 in
set_option maxRecDepth 100000 in
theorem spec_MemNew.calls (k:Nat) (A0:Option Addr) (c0:Nat) (l0:List Int) (r1:List Int) (r2:Bool) (w:World) (hr0:Kd.C (Kd.int .i64) w A0 l0.length l0) (hc0:l0.length≤c0) (h:spec_MemNew.f k l0=some (r1,r2)):
  Calls Tryz.prog 60 #[.slice A0 l0.length c0] w fun e w'=>∃v0_:Value,e= .returned (.tuple #[v0_,.bool r2])∧Kd.R (Kd.int .i64) 3 w' w.heap.size (fun _=>True) v0_ r1∧Below w.heap.size w w':=by
 have HR0:=Za hr0
 have HC0:=Za hc0
 clear hr0 hc0
 have HB:=Za (Yb w.heap.size w)
 have H:((spec_VarsOk.f k l0).bind fun t268=>(if t268=true then ((some (([]:List Int):List Int)).bind fun y269=>(if y269.length+l0.length<17592186044416 then ((some (y269++l0:List Int)).bind fun y272=>(if y272.length+41<17592186044416 then (some ((y272++List.replicate 41 0),true)) else (none))) else (none))) else (some ((([]:List Int)),false))))=some (r1,r2):=h
 clear h
 replace H:=Zg H
 obtain⟨t268,A20,H⟩:=H
 replace H:(if t268=true then ((some (([]:List Int):List Int)).bind fun y269=>(if y269.length+l0.length<17592186044416 then ((some (y269++l0:List Int)).bind fun y272=>(if y272.length+41<17592186044416 then (some ((y272++List.replicate 41 0),true)) else (none))) else (none))) else (some ((([]:List Int)),false)))=some (r1,r2):=H
 have A2:=Za A20
 clear A20
 by_cases c3:t268=true
 ·subst c3
  have H1:((some (([]:List Int):List Int)).bind fun y269=>(if y269.length+l0.length<17592186044416 then ((some (y269++l0:List Int)).bind fun y272=>(if y272.length+41<17592186044416 then (some ((y272++List.replicate 41 0),true)) else (none))) else (none)))=some (r1,r2):=by rw[if_pos rfl] at H;exact H
  clear H
  have H:=H1
  clear H1
  obtain⟨y269,hy269⟩:∃y_:List Int,y_=(([]:List Int)):=⟨_,rfl⟩
  replace H:(if y269.length+l0.length<17592186044416 then ((some (y269++l0:List Int)).bind fun y272=>(if y272.length+41<17592186044416 then (some ((y272++List.replicate 41 0),true)) else (none))) else (none))=some (r1,r2):=by first|(rw[hy269];with_reducible exact H)|(have H2_:=(Yd _ _).symm.trans H;rw[hy269];with_reducible exact H2_)|(have H2_:=(Yd _ _).symm.trans H;with_reducible exact H2_)|with_reducible exact H|(rw[hy269];exact H)|exact H
  have Ny269:=Za hy269
  clear hy269
  by_cases c4:y269.length+l0.length<17592186044416
  ·rw[if_pos c4] at H
   have LMc4:=Za c4
   clear c4
   obtain⟨y272,hy272⟩:∃y_:List Int,y_=(y269++l0):=⟨_,rfl⟩
   replace H:(if y272.length+41<17592186044416 then (some ((y272++List.replicate 41 0),true)) else (none))=some (r1,r2):=by first|(rw[hy272];with_reducible exact H)|(have H2_:=(Yd _ _).symm.trans H;rw[hy272];with_reducible exact H2_)|(have H2_:=(Yd _ _).symm.trans H;with_reducible exact H2_)|with_reducible exact H|(rw[hy272];exact H)|exact H
   have Ny272:=Za hy272
   clear hy272
   by_cases c5:y272.length+41<17592186044416
   ·rw[if_pos c5] at H
    have LMc5:=Za c5
    clear c5
    obtain⟨y275,hy275⟩:∃y_:List Int,y_=(y272++List.replicate 41 0):=⟨_,rfl⟩
    replace H:(some (y275,true))=some (r1,r2):=by first|(rw[hy275];with_reducible exact H)|(have H2_:=(Yd _ _).symm.trans H;rw[hy275];with_reducible exact H2_)|(have H2_:=(Yd _ _).symm.trans H;with_reducible exact H2_)|with_reducible exact H|(rw[hy275];exact H)|exact H
    have Ny275:=Za hy275
    clear hy275
    simp only[Option.some.injEq,Prod.mk.injEq] at H
    obtain⟨rfl,rfl⟩:=H
    go_enter Tryz.func60,Tryz.ntmps60
    go_wp2_with (first|((first|((with_reducible refine gate_callee (f:=54) rfl ?_);refine goesL_ (some 6) rfl rfl Tryz.func54 z3_23 rfl #[.slice A0 l0.length c0] rfl z3_0 ?_;(with_reducible refine(spec_VarsOk.calls k _ _ l0 true _ ?side1 ?side2 A2.out).mono ?_))|(go_at_call 54;(with_reducible refine(spec_VarsOk.calls k _ _ l0 true _ ?side1 ?side2 A2.out).mono ?_)));(case side1=>repeat(first|exact HR0.out|(with_reducible refine Yk ?_ _)|(with_reducible refine Yi ?_ _)|(with_reducible refine Yl ?_)));(case side2=>exact HC0.out);rintro e w' ⟨rfl,⟨nd,rfl⟩⟩;(first|refine⟨_,rfl,?_⟩|skip))|((with_reducible refine Zr (N:=9) rfl ?_);refine Kd.R_lit (Kd.int .i64) _ 3 ?hg (N:=9) ?hd (xs:=([]:List Int)) (inner:=[]) (ok:=fun _=>True) (okp:=fun _=>True) ?hr ?hp (fun _ hk=>hk) trivial (Yb _ _) (Nat.le_refl _) (by simp) ?_;(case hd=>rfl);(case hg=>rfl);(case hr=>exact z3_19);(case hp=>exact(Reps.none _ _));intro v270 w6 ho7 hb hg_ hnew_;clear hg_ hnew_;(first|rw[←Ny269.out] at ho7|(simp only[Int.reduceToNat] at ho7;rw[←Ny269.out] at ho7));have HO271:=Za (Yr ho7 (Yf z3_7));replace HB:=Za (Zk z3_7 hb);clear hb ho7)|((with_reducible refine gate_builtin (b:= .append) (xs:= #[.tmp 9,.tmp 10]) rfl ?_);at_builtin;refine Kd.R_append_rows (Kd.int .i64) (w0:=w) w.heap.size rfl (.tmp 9) (.tmp 10) 27 3 (.int .i64 0) 8 rfl Tryz.underlying27 info3 rfl z3_31 (by omega) v270 y269 l0 _ _ _ (fun _=>True) (fun _=>False) rfl rfl ?aO ?aR (fun _ _ h=>h) (fun _ h=>h.elim) ?aF ?aB ?aS ?aL ?_;(case aR=>repeat(first|exact(Yh HR0.out HB.out)|(with_reducible refine Yk ?_ _)|(with_reducible refine Yi ?_ _)|(with_reducible refine Yl ?_)));(case aB=>exact z3_7);(case aF=>exact(fun _ _=>trivial));(case aO=>exact(by(with_reducible repeat(first|apply Zm|apply Zl|apply Zj));exact HO271.out));(case aS=>exact(Yf z3_7));(case aL=>have:=LMc4.out;omega);intro v273 w8 ho hb hg hat;rw[←Ny272.out] at ho;have n0_:=Za (hb);have n1_:=Za (ho);clear HB;clear HO271;have HB:=n0_;have HO274:=n1_;clear n0_ n1_;clear ho hb hg hat)|(at_builtin;refine Kd.R_append_zeros (Kd.int .i64) (w0:=w) w.heap.size rfl (.tmp 12) (.const (.int .i64 41)) 27 3 3 (.int .i64 0) 8 rfl Tryz.underlying27 Tryz.underlying3 info3 rfl z3_31 (by omega) v273 y272 0 (41:Int) (fun _=>True) rfl rfl rfl ?aF ?aO (by omega) ?aB ?aS ?aL ?_;(case aB=>exact z3_7);(case aF=>exact(fun _ _=>trivial));(case aO=>exact(by(with_reducible repeat(first|apply Zm|apply Zl|apply Zj));exact HO274.out));(case aS=>exact(Yf z3_7));(case aL=>have:=LMc5.out;omega);intro v276 w9 ho hb hg hat;(try simp only[Int.reduceToNat] at ho);rw[←Ny275.out] at ho;have n0_:=Za (hb);have n1_:=Za (ho);clear HB;clear HO274;have HB:=n0_;have HO277:=n1_;clear n0_ n1_;clear ho hb hg hat))
    go_ret2
    exact⟨_,by first|rfl|(simp[errW_none,errW_some]<;>rfl)|(simp[*,errW_none,errW_some]<;>rfl)|(simp[*,errW_none,errW_some,i64_w];done),by(with_reducible repeat(first|apply Zm|apply Zl|apply Zj));exact HO277.out,by repeat(first|(with_reducible first|exact HB.out|apply Zh|apply Zf|apply Ze)|exact HB.out)⟩
   ·rw[if_neg c5] at H
    exact absurd H (by simp)
  ·rw[if_neg c4] at H
   exact absurd H (by simp)
 ·replace c3:=Bool.eq_false_iff.mpr c3
  subst c3
  have H1:(some ((([]:List Int)),false))=some (r1,r2):=by rw[if_neg (show ¬(false=true) by decide)] at H;exact H
  clear H
  have H:=H1
  clear H1
  obtain⟨y278,hy278⟩:∃y_:List Int,y_=(([]:List Int)):=⟨_,rfl⟩
  replace H:(some (y278,false))=some (r1,r2):=by first|(rw[hy278];with_reducible exact H)|(have H2_:=(Yd _ _).symm.trans H;rw[hy278];with_reducible exact H2_)|(have H2_:=(Yd _ _).symm.trans H;with_reducible exact H2_)|with_reducible exact H|(rw[hy278];exact H)|exact H
  have Ny278:=Za hy278
  clear hy278
  simp only[Option.some.injEq,Prod.mk.injEq] at H
  obtain⟨rfl,rfl⟩:=H
  go_enter Tryz.func60,Tryz.ntmps60
  go_wp2_with (first|((first|((with_reducible refine gate_callee (f:=54) rfl ?_);refine goesL_ (some 6) rfl rfl Tryz.func54 z3_23 rfl #[.slice A0 l0.length c0] rfl z3_0 ?_;(with_reducible refine(spec_VarsOk.calls k _ _ l0 false _ ?side1 ?side2 A2.out).mono ?_))|(go_at_call 54;(with_reducible refine(spec_VarsOk.calls k _ _ l0 false _ ?side1 ?side2 A2.out).mono ?_)));(case side1=>repeat(first|exact HR0.out|(with_reducible refine Yk ?_ _)|(with_reducible refine Yi ?_ _)|(with_reducible refine Yl ?_)));(case side2=>exact HC0.out);rintro e w' ⟨rfl,⟨nd,rfl⟩⟩;(first|refine⟨_,rfl,?_⟩|skip))|((with_reducible refine Zr (N:=8) rfl ?_);refine Kd.R_lit (Kd.int .i64) _ 3 ?hg (N:=8) ?hd (xs:=([]:List Int)) (inner:=[]) (ok:=fun _=>True) (okp:=fun _=>True) ?hr ?hp (fun _ hk=>hk) trivial (Yb _ _) (Nat.le_refl _) (by simp) ?_;(case hd=>rfl);(case hg=>rfl);(case hr=>exact z3_19);(case hp=>exact(Reps.none _ _));intro v279 w10 ho11 hb hg_ hnew_;clear hg_ hnew_;(first|rw[←Ny278.out] at ho11|(simp only[Int.reduceToNat] at ho11;rw[←Ny278.out] at ho11));have HO280:=Za (Yr ho11 (Yf z3_7));replace HB:=Za (Zk z3_7 hb);clear hb ho11))
  go_ret2
  exact⟨_,by first|rfl|(simp[errW_none,errW_some]<;>rfl)|(simp[*,errW_none,errW_some]<;>rfl)|(simp[*,errW_none,errW_some,i64_w];done),by(with_reducible repeat(first|apply Zm|apply Zl|apply Zj));exact HO280.out,by repeat(first|(with_reducible first|exact HB.out|apply Zh|apply Zf|apply Ze)|exact HB.out)⟩
def spec_l03Vars.l0:Nat→List Int→Int→List Int→Int→Int→Option (List Int×Int×Int)
 |0,_,_,_,_,_=>none
 |k+1,x3,x4,x1000,x1001,x1002=>if x4<8 then ((spec_l01Below.f x1000 x1001 x1002 2000).bind fun bt284=>((spec_l01PickInt.f x1000 bt284.2.1 bt284.2.2 (([0,1,2,5,wrap64 (bt284.1 - 1000),1000000]:List Int))).bind fun bt290=>(if x3.length<17592186044416 then (spec_l03Vars.l0 k (x3++[bt290.1]) (wrap64 (x4+1)) x1000 bt290.2.1 bt290.2.2) else (none)))) else (some (x3,x1001,x1002))
def spec_l03Vars.f (k:Nat) (s0_0:List Int) (s0_1:Int) (s0_2:Int):Option (List Int×Int×Int):=spec_l03Vars.l0 k (([]:List Int)) 0 s0_0 s0_1 s0_2
theorem spec_l03Vars.mono_l:∀k,(∀y0 y1 y2 y3 y4,LeO (spec_l03Vars.l0 k y0 y1 y2 y3 y4) (spec_l03Vars.l0 (k+1) y0 y1 y2 y3 y4))
 |0=>fun _ _ _ _ _ r h=>by simp[spec_l03Vars.l0] at h
 |k+1=>by
  have ih0:=spec_l03Vars.mono_l k
  ·intro y0 y1 y2 y3 y4
   unfold spec_l03Vars.l0
   repeat' first
   |(with_reducible exact ih0 _ _ _ _ _)
   |(with_reducible exact Yj _)
   |(with_reducible exact Ya _)
   |(with_reducible refine Zz ?_ ?_)
   |(with_reducible refine Zx ?_ (fun _=> ?_))
   |exact ih0 _ _ _ _ _
   |exact Ya _
   |refine Zz ?_ ?_
   |refine Zx ?_ (fun _=> ?_)
theorem spec_l03Vars.mono:∀a0 a1 a2 k,LeO (spec_l03Vars.f k a0 a1 a2) (spec_l03Vars.f (k+1) a0 a1 a2):=by
 intro a0 a1 a2 k
 have ih0:=spec_l03Vars.mono_l k
 unfold spec_l03Vars.f
 repeat' first
   |(with_reducible exact ih0 _ _ _ _ _)
   |(with_reducible exact Yj _)
   |(with_reducible exact Ya _)
   |(with_reducible refine Zz ?_ ?_)
   |(with_reducible refine Zx ?_ (fun _=> ?_))
   |exact ih0 _ _ _ _ _
   |exact Ya _
   |refine Zz ?_ ?_
   |refine Zx ?_ (fun _=> ?_)
set_option maxHeartbeats 8000000 in
set_option maxRecDepth 100000 in
theorem spec_l03Vars.calls (k:Nat) (g:Nat) (s0_0:List Int) (s0_1:Int) (s0_2:Int) (r1:List Int) (r2:Int) (r3:Int) (w0 w:World) (hI:IsS82 w0 w g s0_0 s0_1 s0_2) (hB:Below w0.heap.size w0 w) (h:spec_l03Vars.f k s0_0 s0_1 s0_2=some (r1,r2,r3)):
  Calls Tryz.prog 61 #[.pointer (some ⟨g,0,none⟩)] w fun e w'=>∃v0_:Value,e= .returned (v0_)∧Kd.R (Kd.int .i64) 3 w' w.heap.size (fun _=>True) v0_ r1∧IsS82 w0 w' g s0_0 r2 r3∧Below w0.heap.size w0 w'∧KeepBut w w' g none:=by
 have HI0:=Za hI
 have HK:=Za (KeepBut.refl w g none)
 have HL:=Za hB.size
 clear hI
 have HW0:=Za hB.size
 have HB:=Za hB
 clear hB
 have H:(spec_l03Vars.l0 k (([]:List Int)) 0 s0_0 s0_1 s0_2)=some (r1,r2,r3):=h
 clear h
 obtain⟨y281,hy281⟩:∃y_:List Int,y_=(([]:List Int)):=⟨_,rfl⟩
 replace H:(spec_l03Vars.l0 k y281 0 s0_0 s0_1 s0_2)=some (r1,r2,r3):=by first|(rw[hy281];with_reducible exact H)|(have H2_:=(Yd _ _).symm.trans H;rw[hy281];with_reducible exact H2_)|(have H2_:=(Yd _ _).symm.trans H;with_reducible exact H2_)|with_reducible exact H|(rw[hy281];exact H)|exact H
 have Ny281:=Za hy281
 clear hy281
 have H':=Za H
 clear H
 go_enter Tryz.func61,Tryz.ntmps61
 go_wp2_with (first|((with_reducible refine Zr (N:=5) rfl ?_);refine Kd.R_lit (Kd.int .i64) _ 3 ?hg (N:=5) ?hd (xs:=([]:List Int)) (inner:=[]) (ok:=fun _=>True) (okp:=fun _=>True) ?hr ?hp (fun _ hk=>hk) trivial (Yb _ _) (Nat.le_refl _) (by simp) ?_;(case hd=>rfl);(case hg=>rfl);(case hr=>exact z3_19);(case hp=>exact(Reps.none _ _));intro v282 w2 ho3 hb hg_ hnew_;clear hg_ hnew_;(first|rw[←Ny281.out] at ho3|(simp only[Int.reduceToNat] at ho3;rw[←Ny281.out] at ho3));have HO283:=Za (Yr ho3 (keep_size (w:=w) (g:=g) (row:=none) z3_1));replace HK:=Za (KeepBut.trans z3_1 (KeepBut.of_below hb g none) (.inl rfl));replace HB:=Za (Zk z3_4 hb);replace HI0:=Za (IsS82.below z3_5 hb);clear hb ho3))
 go_loopg [3,4] k (fun kq v3 v4 w'=>∃(x3_1:List Int) (x4_1:Int) (x1001_1:Int) (x1002_1:Int),v4= .int .i64 x4_1∧Aside0 (spec_l03Vars.l0 kq x3_1 x4_1 s0_0 x1001_1 x1002_1=some (r1,r2,r3))∧Aside0 (kq≤k)∧Aside0 (Kd.R (Kd.int .i64) 3 w' w.heap.size (fun _=>True) v3 x3_1)∧Aside0 (IsS82 w0 w' g s0_0 x1001_1 x1002_1)∧Aside0 (KeepBut w w' g none)∧Aside0 (Below w0.heap.size w0 w'))
 case atStart=>exact⟨(y281),(0),(s0_1),(s0_2),z3_21,H',⟨Nat.le_refl _⟩,⟨by(with_reducible repeat(first|apply Zm|apply Zl|apply Zj));exact HO283.out⟩,⟨by repeat(first|(with_reducible first|exact HI0.out|apply IsS82.alloc|apply IsS82.drewN|apply IsS82.drew|apply IsS82.set_1|apply IsS82.set_2)|exact HI0.out)⟩,⟨by repeat(first|(with_reducible first|exact HK.out|apply KeepBut.set_|apply keep_drewN|apply keep_drew|apply keep_alloc)|exact HK.out)⟩,⟨by repeat(first|(with_reducible first|exact HB.out|apply Zh|apply Zf|apply Ze|refine Zd ?_ (IsS82.ge HI0.out))|exact HB.out)⟩⟩
 case round=>
  clear H'
  obtain⟨x3_1,x4_1,x1001_1,x1002_1,rfl,HA,HK1,HO_3,HI0,HK,HB⟩:=hrel
  cases gk with
  |zero=>exact absurd HA.out (by simp[spec_l03Vars.l0])
  |succ k1=>
   have H:=HA.out
   clear HA
   simp only[spec_l03Vars.l0] at H
   by_cases c4:x4_1<8
   ·rw[if_pos c4] at H
    have c4b0:decide (x4_1<8)=true:=Zo c4
    clear c4
    replace H:=Zg H
    obtain⟨⟨t284,t285,t286⟩,A50,H⟩:=H
    replace H:((spec_l01PickInt.f s0_0 t285 t286 (([0,1,2,5,wrap64 (t284 - 1000),1000000]:List Int))).bind fun bt290=>(if x3_1.length<17592186044416 then (spec_l03Vars.l0 k1 (x3_1++[bt290.1]) (wrap64 (x4_1+1)) s0_0 bt290.2.1 bt290.2.2) else (none)))=some (r1,r2,r3):=H
    have A5:=Za A50
    clear A50
    obtain⟨y287,hy287⟩:∃y_:List Int,y_=(([0,1,2,5,wrap64 (t284 - 1000),1000000]:List Int)):=⟨_,rfl⟩
    replace H:((spec_l01PickInt.f s0_0 t285 t286 y287).bind fun bt290=>(if x3_1.length<17592186044416 then (spec_l03Vars.l0 k1 (x3_1++[bt290.1]) (wrap64 (x4_1+1)) s0_0 bt290.2.1 bt290.2.2) else (none)))=some (r1,r2,r3):=by first|(rw[hy287];with_reducible exact H)|(have H2_:=(Yd _ _).symm.trans H;rw[hy287];with_reducible exact H2_)|(have H2_:=(Yd _ _).symm.trans H;with_reducible exact H2_)|with_reducible exact H|(rw[hy287];exact H)|exact H
    have Ny287:=Za hy287
    clear hy287
    replace H:=Zg H
    obtain⟨⟨t290,t291,t292⟩,A60,H⟩:=H
    replace H:(if x3_1.length<17592186044416 then (spec_l03Vars.l0 k1 (x3_1++[t290]) (wrap64 (x4_1+1)) s0_0 t291 t292) else (none))=some (r1,r2,r3):=H
    have A6:=Za A60
    clear A60
    by_cases c7:x3_1.length<17592186044416
    ·rw[if_pos c7] at H
     have LMc7:=Za c7
     clear c7
     obtain⟨y293,hy293⟩:∃y_:List Int,y_=(x3_1++[t290]):=⟨_,rfl⟩
     replace H:(spec_l03Vars.l0 k1 y293 (wrap64 (x4_1+1)) s0_0 t291 t292)=some (r1,r2,r3):=by first|(rw[hy293];with_reducible exact H)|(have H2_:=(Yd _ _).symm.trans H;rw[hy293];with_reducible exact H2_)|(have H2_:=(Yd _ _).symm.trans H;with_reducible exact H2_)|with_reducible exact H|(rw[hy293];exact H)|exact H
     have Ny293:=Za hy293
     clear hy293
     have H':=Za H
     clear H
     go_wp2_with (first|((first|((with_reducible refine gate_callee (f:=38) rfl ?_);refine goesL_ (some 13) rfl rfl Tryz.func38 z3_23 rfl #[.pointer (some ⟨g,0,none⟩),.int .i64 2000] rfl z3_0 ?_;(with_reducible refine(spec_l01Below.calls g s0_0 x1001_1 x1002_1 2000 t284 t285 t286 w0 _ ?side1 ?side2 A5.out).mono ?_))|(go_at_call 38;(with_reducible refine(spec_l01Below.calls g s0_0 x1001_1 x1002_1 2000 t284 t285 t286 w0 _ ?side1 ?side2 A5.out).mono ?_)));(case side1=>exact z3_5);(case side2=>exact z3_4);rintro e w8 ⟨rfl,hi,hb,hk⟩;(first|refine⟨_,rfl,?_⟩|skip);replace HO_3:=Za (Yc (Kd.R_keep (IsS82.apart (show IsS82 w0 _ g s0_0 x1001_1 x1002_1 from by repeat(first|(with_reducible first|exact HI0.out|apply IsS82.alloc|apply IsS82.drewN|apply IsS82.drew|apply IsS82.set_1|apply IsS82.set_2)|exact HI0.out)) z3_18 z3_31) hk (fun _ h=>h.2)) (fun _ h=>h.1));replace HK:=Za (KeepBut.trans z3_1 hk (.inl rfl));replace HB:=Za (hb);replace HI0:=Za (hi);(try clear hb);(try clear hb2);(try clear hk);(try clear hi))|((with_reducible refine Zr (N:=15) rfl ?_);refine Kd.R_lit (Kd.int .i64) _ 3 ?hg (N:=15) ?hd (xs:=([0,1,2,5,wrap64 (t284 - 1000),1000000]:List Int)) (inner:=[.int .i64 0,.int .i64 1,.int .i64 2,.int .i64 5,.int .i64 (wrap64 (t284 - 1000)),.int .i64 1000000]) (ok:=fun _=>True) (okp:=fun _=>True) ?hr ?hp (fun _ hk=>hk) trivial (Yb _ _) (Nat.le_refl _) (by simp) ?_;(case hd=>rfl);(case hg=>rfl);(case hr=>exact z3_19);(case hp=>exact(Reps.one (show Kd.M (Kd.int .i64) _ _ _ 0 [.int .i64 0] from rfl) (Reps.one (show Kd.M (Kd.int .i64) _ _ _ 1 [.int .i64 1] from rfl) (Reps.one (show Kd.M (Kd.int .i64) _ _ _ 2 [.int .i64 2] from rfl) (Reps.one (show Kd.M (Kd.int .i64) _ _ _ 5 [.int .i64 5] from rfl) (Reps.one (show Kd.M (Kd.int .i64) _ _ _ (wrap64 (t284 - 1000)) [.int .i64 (wrap64 (t284 - 1000))] from rfl) (Reps.one (show Kd.M (Kd.int .i64) _ _ _ 1000000 [.int .i64 1000000] from rfl) (Reps.none _ _))))))));intro v288 w9 ho10 hb hg_ hnew_;clear hg_ hnew_;(first|rw[←Ny287.out] at ho10|(simp only[Int.reduceToNat] at ho10;rw[←Ny287.out] at ho10));have HO289:=Za (Yr (Kd.R_new' ho10 (Kd.R_lt z3_18)) (keep_size (w:=w) (g:=g) (row:=none) z3_1));replace HO_3:=Za (Ys z3_18 (Ye ho10) hb);replace HK:=Za (KeepBut.trans z3_1 (KeepBut.of_below hb g none) (.inl rfl));replace HB:=Za (Zk z3_4 hb);replace HI0:=Za (IsS82.below z3_5 hb);clear hb ho10;obtain⟨Ao11,co11,eo11⟩:=Yn HO289.out;subst eo11)|((first|((with_reducible refine gate_callee (f:=93) rfl ?_);refine goesL_ (some 16) rfl rfl Tryz.func93 z3_23 rfl #[.pointer (some ⟨g,0,none⟩),.slice Ao11 y287.length co11] rfl z3_0 ?_;(with_reducible refine(spec_l01PickInt.calls g s0_0 t285 t286 _ _ y287 t290 t291 t292 w0 _ ?side1 ?side2 ?side3 ?side4 ?side5 A6.out).mono ?_))|(go_at_call 93;(with_reducible refine(spec_l01PickInt.calls g s0_0 t285 t286 _ _ y287 t290 t291 t292 w0 _ ?side1 ?side2 ?side3 ?side4 ?side5 A6.out).mono ?_)));(case side1=>exact z3_5);(case side2=>exact z3_4);(case side3=>repeat(first|exact(Ym HO289.out).2.2|(with_reducible refine Yk ?_ _)|(with_reducible refine Yi ?_ _)|(with_reducible refine Yl ?_)));(case side4=>exact(Ym HO289.out).2.1);(case side5=>exact far_slice (IsS82.own_ne HI0.out HO289.out z3_31));rintro e w12 ⟨rfl,hi,hb,hk⟩;(first|refine⟨_,rfl,?_⟩|skip);replace HO_3:=Za (Yc (Kd.R_keep (IsS82.apart (show IsS82 w0 _ g s0_0 t285 t286 from by repeat(first|(with_reducible first|exact HI0.out|apply IsS82.alloc|apply IsS82.drewN|apply IsS82.drew|apply IsS82.set_1|apply IsS82.set_2)|exact HI0.out)) z3_18 z3_31) hk (fun _ h=>h.2)) (fun _ h=>h.1));replace HO289:=Za (Yc (Kd.R_keep (IsS82.apart (show IsS82 w0 _ g s0_0 t285 t286 from by repeat(first|(with_reducible first|exact HI0.out|apply IsS82.alloc|apply IsS82.drewN|apply IsS82.drew|apply IsS82.set_1|apply IsS82.set_2)|exact HI0.out)) (by(with_reducible repeat(first|apply Zm|apply Zl|apply Zj));exact HO289.out) z3_31) hk (fun _ h=>h.2)) (fun _ h=>h.1));replace HK:=Za (KeepBut.trans z3_1 hk (.inl rfl));replace HB:=Za (hb);replace HI0:=Za (hi);(try clear hb);(try clear hb2);(try clear hk);(try clear hi))|((with_reducible refine gate_builtin (b:= .append) (xs:= #[.tmp 10,.tmp 17]) rfl ?_);at_builtin;refine Kd.R_append (Kd.int .i64) w.heap.size rfl (.tmp 10) (.tmp 17) 27 3 (.int .i64 0) 8 rfl Tryz.underlying27 info3 rfl z3_31 (by omega) u3 x3_1 t290 [.int .i64 t290] (fun k_=>some k_≠(.slice Ao11 y287.length co11:Value).ownBlock) (fun _=>False) rfl rfl ?aP (fun _ hk=>hk.elim) ?aF ?aO (Yb _ _) ?aS ?aL ?_;(case aP=>exact rfl);(case aF=>exact(fun k_ hk=>Kd.fresh' (Kd.R_lt (by(with_reducible repeat(first|apply Zm|apply Zl|apply Zj));exact HO289.out)) k_ hk));(case aO=>exact(by(with_reducible repeat(first|apply Zm|apply Zl|apply Zj));exact Yc HO_3.out (fun _ hk=>hk.2)));(case aS=>exact(keep_size (w:=w) (g:=g) (row:=none) z3_1));(case aL=>have:=LMc7.out;omega);intro v294 w13 ho hb hg hat;rw[←Ny293.out] at ho;have n0_:=Za (IsS82.grown z3_5 hg (IsS82.own_ne HI0.out HO_3.out z3_31));have n1_:=Za (Kd.R_after (ok:=(fun _=>True)) (by(with_reducible repeat(first|apply Zm|apply Zl|apply Zj));exact HO289.out) hg hat);have n2_:=Za (below_weaken z3_4 HL.out hb);have n3_:=Za (KeepBut.trans z3_1 (KeepBut.of_grown hg g) (Kd.R_base2 HO_3.out));have n4_:=Za (ho);clear HI0;clear HO289;clear HB;clear HK;clear HO_3;have HI0:=n0_;have HO289:=n1_;have HB:=n2_;have HK:=n3_;have HO295:=n4_;clear n0_ n1_ n2_ n3_ n4_;clear ho hb hg hat))
     go_roundg k1
     case measure=>have:=HK1.out;omega
     case rel=>exact⟨(y293),(wrap64 (x4_1+1)),(t291),(t292),z3_21,H',⟨by have:=HK1.out;omega⟩,⟨by(with_reducible repeat(first|apply Zm|apply Zl|apply Zj));exact Yc HO295.out (fun _ hk=>trivial)⟩,⟨by repeat(first|(with_reducible first|exact HI0.out|apply IsS82.alloc|apply IsS82.drewN|apply IsS82.drew|apply IsS82.set_1|apply IsS82.set_2)|exact HI0.out)⟩,⟨by repeat(first|(with_reducible first|exact HK.out|apply KeepBut.set_|apply keep_drewN|apply keep_drew|apply keep_alloc)|exact HK.out)⟩,⟨by repeat(first|(with_reducible first|exact HB.out|apply Zh|apply Zf|apply Ze|refine Zd ?_ (IsS82.ge HI0.out))|exact HB.out)⟩⟩
    ·rw[if_neg c7] at H
     exact absurd H (by simp)
   ·rw[if_neg c4] at H
    have c4b0:decide (x4_1<8)=false:=Yg c4
    clear c4
    simp only[Option.some.injEq,Prod.mk.injEq] at H
    obtain⟨rfl,rfl,rfl⟩:=H
    go_wp2
    go_ret
    exact⟨_,by first|rfl|(simp[errW_none,errW_some]<;>rfl)|(simp[*,errW_none,errW_some]<;>rfl)|(simp[*,errW_none,errW_some,i64_w];done),by(with_reducible repeat(first|apply Zm|apply Zl|apply Zj));exact HO_3.out,by repeat(first|(with_reducible first|exact HI0.out|apply IsS82.alloc|apply IsS82.drewN|apply IsS82.drew|apply IsS82.set_1|apply IsS82.set_2)|exact HI0.out),by repeat(first|(with_reducible first|exact HB.out|apply Zh|apply Zf|apply Ze|refine Zd ?_ (IsS82.ge HI0.out))|exact HB.out),by repeat(first|(with_reducible first|exact HK.out|apply KeepBut.set_|apply keep_drewN|apply keep_drew|apply keep_alloc)|exact HK.out)⟩
/-! ### spec_l09Mem: function 33 -/
mutual
def spec_l09Mem.l0:Nat→List Int→Int→Int→List Int→Int→Int→List (S74)→Option (List Int×Int×Int)
 |0,_,_,_,_,_,_,_=>none
 |k+1,x5,x7,x8,x1000,x1001,x1002,x297000=>if x8<x7 then ((spec_l01Below.f x1000 x1001 x1002 500).bind fun bt309=>(if 0≤(wrap64 (25+x8)) then (if (wrap64 (25+x8))<(x5.length:Int) then (spec_l09Mem.l0 k (x5.set ((wrap64 (25+x8)):Int).toNat bt309.1) x7 (wrap64 (x8+1)) x1000 bt309.2.1 bt309.2.2 x297000) else (none)) else (none))) else ((spec_l01Below.f x1000 x1001 x1002 2).bind fun bt313=>((spec_l01Below.f x1000 bt313.2.1 bt313.2.2 4).bind fun bt316=>(spec_l09Mem.l1 k x5 x7 (wrap64 (bt313.1*bt316.1)) 0 x1000 bt316.2.1 bt316.2.2 x297000)))
def spec_l09Mem.l1:Nat→List Int→Int→Int→Int→List Int→Int→Int→List (S74)→Option (List Int×Int×Int)
 |0,_,_,_,_,_,_,_,_=>none
 |k+1,x5,x7,x9,x10,x1000,x1001,x1002,x297000=>if x10<x9 then (if 0≤(wrap64 (9+(wrap64 (2*x10)))) then (if (wrap64 (9+(wrap64 (2*x10))))<(x5.length:Int) then ((spec_l01Below.f x1000 x1001 x1002 900).bind fun bt320=>(if 0≤(wrap64 ((wrap64 (9+(wrap64 (2*x10))))+1)) then (if (wrap64 ((wrap64 (9+(wrap64 (2*x10))))+1))<(x5.length:Int) then (spec_l09Mem.l1 k ((x5.set ((wrap64 (9+(wrap64 (2*x10)))):Int).toNat x10).set ((wrap64 ((wrap64 (9+(wrap64 (2*x10))))+1)):Int).toNat bt320.1) x7 x9 (wrap64 (x10+1)) x1000 bt320.2.1 bt320.2.2 x297000) else (none)) else (none))) else (none)) else (none)) else ((spec_l01Below.f x1000 x1001 x1002 (x297000.length:Int)).bind fun bt324=>((spec_PackControl.f bt324.1 x9 x7).bind fun t327=>(if 8<(x5.length:Int) then (some ((x5.set (8:Int).toNat t327),bt324.2.1,bt324.2.2)) else (none))))
end
def spec_l09Mem.f (k:Nat) (s0_0:List Int) (s0_1:Int) (s0_2:Int) (l1_0:List (S74)):Option (List Int×Int×Int):=(spec_l03Vars.f k s0_0 s0_1 s0_2).bind fun bt297=>((spec_MemNew.f k bt297.1).bind fun bt302=>((spec_l01Below.f s0_0 bt297.2.1 bt297.2.2 5).bind fun bt306=>(spec_l09Mem.l0 k bt302.1 bt306.1 0 s0_0 bt306.2.1 bt306.2.2 l1_0)))
theorem spec_l09Mem.mono_l:∀k,(∀y0 y1 y2 y3 y4 y5 y6,LeO (spec_l09Mem.l0 k y0 y1 y2 y3 y4 y5 y6) (spec_l09Mem.l0 (k+1) y0 y1 y2 y3 y4 y5 y6))∧(∀y0 y1 y2 y3 y4 y5 y6 y7,LeO (spec_l09Mem.l1 k y0 y1 y2 y3 y4 y5 y6 y7) (spec_l09Mem.l1 (k+1) y0 y1 y2 y3 y4 y5 y6 y7))
 |0=>⟨fun _ _ _ _ _ _ _ r h=>by simp[spec_l09Mem.l0] at h,fun _ _ _ _ _ _ _ _ r h=>by simp[spec_l09Mem.l1] at h⟩
 |k+1=>by
  obtain⟨ih0,ih1⟩:=spec_l09Mem.mono_l k
  refine⟨?_,?_⟩
  ·intro y0 y1 y2 y3 y4 y5 y6
   unfold spec_l09Mem.l0
   repeat' first
   |(with_reducible exact ih0 _ _ _ _ _ _ _)
   |(with_reducible exact ih1 _ _ _ _ _ _ _ _)
   |(with_reducible exact spec_MemNew.mono _ _)
   |(with_reducible exact spec_l03Vars.mono _ _ _ _)
   |(with_reducible exact Yj _)
   |(with_reducible exact Ya _)
   |(with_reducible refine Zz ?_ ?_)
   |(with_reducible refine Zx ?_ (fun _=> ?_))
   |exact ih0 _ _ _ _ _ _ _
   |exact ih1 _ _ _ _ _ _ _ _
   |exact spec_MemNew.mono _ _
   |exact spec_l03Vars.mono _ _ _ _
   |exact Ya _
   |refine Zz ?_ ?_
   |refine Zx ?_ (fun _=> ?_)
  ·intro y0 y1 y2 y3 y4 y5 y6 y7
   unfold spec_l09Mem.l1
   repeat' first
   |(with_reducible exact ih0 _ _ _ _ _ _ _)
   |(with_reducible exact ih1 _ _ _ _ _ _ _ _)
   |(with_reducible exact spec_MemNew.mono _ _)
   |(with_reducible exact spec_l03Vars.mono _ _ _ _)
   |(with_reducible exact Yj _)
   |(with_reducible exact Ya _)
   |(with_reducible refine Zz ?_ ?_)
   |(with_reducible refine Zx ?_ (fun _=> ?_))
   |exact ih0 _ _ _ _ _ _ _
   |exact ih1 _ _ _ _ _ _ _ _
   |exact spec_MemNew.mono _ _
   |exact spec_l03Vars.mono _ _ _ _
   |exact Ya _
   |refine Zz ?_ ?_
   |refine Zx ?_ (fun _=> ?_)
theorem spec_l09Mem.mono:∀a0 a1 a2 a3 k,LeO (spec_l09Mem.f k a0 a1 a2 a3) (spec_l09Mem.f (k+1) a0 a1 a2 a3):=by
 intro a0 a1 a2 a3 k
 obtain⟨ih0,ih1⟩:=spec_l09Mem.mono_l k
 unfold spec_l09Mem.f
 repeat' first
   |(with_reducible exact ih0 _ _ _ _ _ _ _)
   |(with_reducible exact ih1 _ _ _ _ _ _ _ _)
   |(with_reducible exact spec_MemNew.mono _ _)
   |(with_reducible exact spec_l03Vars.mono _ _ _ _)
   |(with_reducible exact Yj _)
   |(with_reducible exact Ya _)
   |(with_reducible refine Zz ?_ ?_)
   |(with_reducible refine Zx ?_ (fun _=> ?_))
   |exact ih0 _ _ _ _ _ _ _
   |exact ih1 _ _ _ _ _ _ _ _
   |exact spec_MemNew.mono _ _
   |exact spec_l03Vars.mono _ _ _ _
   |exact Ya _
   |refine Zz ?_ ?_
   |refine Zx ?_ (fun _=> ?_)
set_option maxHeartbeats 8000000 in
set_option maxRecDepth 100000 in
theorem spec_l09Mem.calls (k:Nat) (g:Nat) (s0_0:List Int) (s0_1:Int) (s0_2:Int) (A1_0:Option Addr) (c1_0:Nat) (l1_0:List (S74)) (r1:List Int) (r2:Int) (r3:Int) (w0 w:World) (hI:IsS82 w0 w g s0_0 s0_1 s0_2) (hB:Below w0.heap.size w0 w) (hr1_0:∀W_,KeepBut w W_ g none→Kd.C k74 W_ A1_0 l1_0.length l1_0) (hc1_0:l1_0.length≤c1_0) (h:spec_l09Mem.f k s0_0 s0_1 s0_2 l1_0=some (r1,r2,r3)):
  Calls Tryz.prog 33 #[.pointer (some ⟨g,0,none⟩),.agg #[.slice A1_0 l1_0.length c1_0]] w fun e w'=>∃v0_:Value,e= .returned (v0_)∧Kd.R (Kd.int .i64) 3 w' w.heap.size (fun _=>True) v0_ r1∧IsS82 w0 w' g s0_0 r2 r3∧Below w0.heap.size w0 w'∧KeepBut w w' g none:=by
 have hu26:=Tryz.underlying26
 have HR1_0:=Za hr1_0
 have HC1_0:=Za hc1_0
 clear hr1_0 hc1_0
 have HI0:=Za hI
 have HK:=Za (KeepBut.refl w g none)
 have HL:=Za hB.size
 clear hI
 have HW0:=Za hB.size
 have HB:=Za hB
 clear hB
 have H:((spec_l03Vars.f k s0_0 s0_1 s0_2).bind fun bt297=>((spec_MemNew.f k bt297.1).bind fun bt302=>((spec_l01Below.f s0_0 bt297.2.1 bt297.2.2 5).bind fun bt306=>(spec_l09Mem.l0 k bt302.1 bt306.1 0 s0_0 bt306.2.1 bt306.2.2 l1_0))))=some (r1,r2,r3):=h
 clear h
 replace H:=Zg H
 obtain⟨⟨t297,t300,t301⟩,A30,H⟩:=H
 replace H:((spec_MemNew.f k t297).bind fun bt302=>((spec_l01Below.f s0_0 t300 t301 5).bind fun bt306=>(spec_l09Mem.l0 k bt302.1 bt306.1 0 s0_0 bt306.2.1 bt306.2.2 l1_0)))=some (r1,r2,r3):=H
 have A3:=Za A30
 clear A30
 replace H:=Zg H
 obtain⟨⟨t302,t303⟩,A40,H⟩:=H
 replace H:((spec_l01Below.f s0_0 t300 t301 5).bind fun bt306=>(spec_l09Mem.l0 k t302 bt306.1 0 s0_0 bt306.2.1 bt306.2.2 l1_0))=some (r1,r2,r3):=H
 have A4:=Za A40
 clear A40
 replace H:=Zg H
 obtain⟨⟨t306,t307,t308⟩,A50,H⟩:=H
 replace H:(spec_l09Mem.l0 k t302 t306 0 s0_0 t307 t308 l1_0)=some (r1,r2,r3):=H
 have A5:=Za A50
 clear A50
 have H':=Za H
 clear H
 go_enter Tryz.func33,Tryz.ntmps33
 go_wp2_with (first|((with_reducible refine Zr (N:=3) rfl ?_);refine Zy ?hg (N:=3) ?hd (cs:= #[.slice A1_0 l1_0.length c1_0]) (t:=26) ?hr ?_;(case hd=>rfl);(case hg=>rfl);(case hr=>exact z3_19);intro gb296 hg w6 hbox hb;replace HB:=Za (Zk z3_4 hb);have BK296:=Za (hbox);have GW296:=Za ((by rw[hg];exact(keep_size (w:=w) (g:=g) (row:=none) z3_1):w.heap.size≤gb296));have GE296:=Za ((Nat.le_trans HW0.out (by rw[hg];exact(keep_size (w:=w) (g:=g) (row:=none) z3_1):w.heap.size≤gb296):w0.heap.size≤gb296));replace HK:=Za (KeepBut.trans z3_1 (KeepBut.of_below hb g none) (.inl rfl));have NB0_296:=Za ((z3_28:g≠gb296));have NB296_0:=Za ((z3_29:gb296≠g));replace HI0:=Za (IsS82.below z3_5 hb);clear hb hbox hg)|((first|((with_reducible refine gate_callee (f:=61) rfl ?_);refine goesL_ (some 13) rfl rfl Tryz.func61 z3_23 rfl #[.pointer (some ⟨g,0,none⟩)] rfl z3_0 ?_;(with_reducible refine(spec_l03Vars.calls k g s0_0 s0_1 s0_2 t297 t300 t301 w0 _ ?side1 ?side2 A3.out).mono ?_))|(go_at_call 61;(with_reducible refine(spec_l03Vars.calls k g s0_0 s0_1 s0_2 t297 t300 t301 w0 _ ?side1 ?side2 A3.out).mono ?_)));(case side1=>exact z3_3);(case side2=>exact z3_6);rintro e w7 ⟨v298,rfl,ho0,hi,hb,hk⟩;(first|refine⟨_,rfl,?_⟩|skip);replace BK296:=Za (KeepBut.blk hk (g':=gb296) (o:= .cells #[.slice A1_0 l1_0.length c1_0] 26 (0,0)) z3_8 NB296_0.out (by simp));have HO299:=Za (Yr ho0 (keep_size (w:=w) (g:=g) (row:=none) z3_2));replace HK:=Za (KeepBut.trans z3_2 hk (.inl rfl));replace HB:=Za (hb);replace HI0:=Za (hi);(try clear hb);(try clear hb2);(try clear hk);(try clear hi);(try clear ho0);obtain⟨Ao8,co8,eo8⟩:=Yn HO299.out;subst eo8)|((first|((with_reducible refine gate_callee (f:=60) rfl ?_);refine goesL_ (some 14) rfl rfl Tryz.func60 z3_23 rfl #[.slice Ao8 t297.length co8] rfl z3_0 ?_;(with_reducible refine(spec_MemNew.calls k _ _ t297 t302 t303 _ ?side1 ?side2 A4.out).mono ?_))|(go_at_call 60;(with_reducible refine(spec_MemNew.calls k _ _ t297 t302 t303 _ ?side1 ?side2 A4.out).mono ?_)));(case side1=>repeat(first|exact(Ym HO299.out).2.2|(with_reducible refine Yk ?_ _)|(with_reducible refine Yi ?_ _)|(with_reducible refine Yl ?_)));(case side2=>exact(Ym HO299.out).2.1);rintro e w9 ⟨v304,rfl,ho0,hb⟩;(first|refine⟨_,rfl,?_⟩|skip);have HO305:=Za (Yr (Kd.R_new' ho0 (Kd.R_lt (by(with_reducible repeat(first|apply Zm|apply Zl|apply Zj));exact HO299.out))) (keep_size (w:=w) (g:=g) (row:=none) z3_2));replace HO299:=Za (Ys (by(with_reducible repeat(first|apply Zm|apply Zl|apply Zj));exact HO299.out) (Ye ho0) hb);replace BK296:=Za (Zi (g:=gb296) (o:= .cells #[.slice A1_0 l1_0.length c1_0] 26 (0,0)) z3_8 hb);replace HK:=Za (KeepBut.trans z3_2 (KeepBut.of_below hb g none) (.inl rfl));replace HB:=Za (Zk z3_6 hb);replace HI0:=Za (IsS82.below z3_3 hb);(try clear hb);(try clear hb2);(try clear hk);(try clear hi);(try clear ho0))|((first|((with_reducible refine gate_callee (f:=38) rfl ?_);refine goesL_ (some 18) rfl rfl Tryz.func38 z3_23 rfl #[.pointer (some ⟨g,0,none⟩),.int .i64 5] rfl z3_0 ?_;(with_reducible refine(spec_l01Below.calls g s0_0 t300 t301 5 t306 t307 t308 w0 _ ?side1 ?side2 A5.out).mono ?_))|(go_at_call 38;(with_reducible refine(spec_l01Below.calls g s0_0 t300 t301 5 t306 t307 t308 w0 _ ?side1 ?side2 A5.out).mono ?_)));(case side1=>exact z3_3);(case side2=>exact z3_6);rintro e w10 ⟨rfl,hi,hb,hk⟩;(first|refine⟨_,rfl,?_⟩|skip);replace BK296:=Za (KeepBut.blk hk (g':=gb296) (o:= .cells #[.slice A1_0 l1_0.length c1_0] 26 (0,0)) z3_8 NB296_0.out (by simp));replace HO299:=Za (Yc (Kd.R_keep (IsS82.apart (show IsS82 w0 _ g s0_0 t300 t301 from by repeat(first|(with_reducible first|exact HI0.out|apply IsS82.alloc|apply IsS82.drewN|apply IsS82.drew|apply IsS82.set_1|apply IsS82.set_2|refine IsS82.far ?_ NB0_296.out _)|exact HI0.out)) (by(with_reducible repeat(first|apply Zm|apply Zl|apply Zj));exact HO299.out) z3_31) hk (fun _ h=>h.2)) (fun _ h=>h.1));replace HO305:=Za (Yc (Kd.R_keep (IsS82.apart (show IsS82 w0 _ g s0_0 t300 t301 from by repeat(first|(with_reducible first|exact HI0.out|apply IsS82.alloc|apply IsS82.drewN|apply IsS82.drew|apply IsS82.set_1|apply IsS82.set_2|refine IsS82.far ?_ NB0_296.out _)|exact HI0.out)) (by(with_reducible repeat(first|apply Zm|apply Zl|apply Zj));exact HO305.out) z3_31) hk (fun _ h=>h.2)) (fun _ h=>h.1));replace HK:=Za (KeepBut.trans z3_2 hk (.inl rfl));replace HB:=Za (hb);replace HI0:=Za (hi);(try clear hb);(try clear hb2);(try clear hk);(try clear hi)))
 go_loopg [8] k (fun kq v8 w'=>∃(x5_1:List Int) (x8_1:Int) (x1001_1:Int) (x1002_1:Int),v8= .int .i64 x8_1∧Aside0 (spec_l09Mem.l0 kq x5_1 t306 x8_1 s0_0 x1001_1 x1002_1 l1_0=some (r1,r2,r3))∧Aside0 (kq≤k)∧Aside0 (Kd.R (Kd.int .i64) 3 w' w.heap.size (fun _=>True) v304 x5_1)∧Aside0 (w'.heap[gb296]? =some (.cells #[(.slice A1_0 l1_0.length c1_0)] 26 (0,0)))∧Aside0 (IsS82 w0 w' g s0_0 x1001_1 x1002_1)∧Aside0 (KeepBut w w' g none)∧Aside0 (Below w0.heap.size w0 w'))
 case atStart=>exact⟨(t302),(0),(t307),(t308),z3_21,H',⟨Nat.le_refl _⟩,⟨by(with_reducible repeat(first|apply Zm|apply Zl|apply Zj));exact Yc HO305.out (fun _ hk=>trivial)⟩,⟨by(with_reducible repeat(first|refine blk_drewN ?_ _|refine blk_drew ?_|refine blk_alloc ?_ _));exact BK296.out⟩,⟨by repeat(first|(with_reducible first|exact HI0.out|apply IsS82.alloc|apply IsS82.drewN|apply IsS82.drew|apply IsS82.set_1|apply IsS82.set_2|refine IsS82.far ?_ NB0_296.out _)|exact HI0.out)⟩,⟨by repeat(first|(with_reducible first|exact HK.out|apply KeepBut.set_|apply keep_drewN|apply keep_drew|apply keep_alloc|refine keep_far ?_ GW296.out _)|exact HK.out)⟩,⟨by repeat(first|(with_reducible first|exact HB.out|apply Zh|apply Zf|apply Ze|refine Zd ?_ (IsS82.ge HI0.out)|refine Zd ?_ GE296.out)|exact HB.out)⟩⟩
 case round=>
  clear H'
  obtain⟨x5_1,x8_1,x1001_1,x1002_1,rfl,HA,HK1,HO_5,BK296,HI0,HK,HB⟩:=hrel
  cases gk with
  |zero=>exact absurd HA.out (by simp[spec_l09Mem.l0])
  |succ k1=>
   have H:=HA.out
   clear HA
   simp only[spec_l09Mem.l0] at H
   by_cases c11:x8_1<t306
   ·rw[if_pos c11] at H
    have c11b0:decide (x8_1<t306)=true:=Zo c11
    clear c11
    replace H:=Zg H
    obtain⟨⟨t309,t310,t311⟩,A120,H⟩:=H
    replace H:(if 0≤(wrap64 (25+x8_1)) then (if (wrap64 (25+x8_1))<(x5_1.length:Int) then (spec_l09Mem.l0 k1 (x5_1.set ((wrap64 (25+x8_1)):Int).toNat t309) t306 (wrap64 (x8_1+1)) s0_0 t310 t311 l1_0) else (none)) else (none))=some (r1,r2,r3):=H
    have A12:=Za A120
    clear A120
    obtain⟨ji13,hji13⟩:∃j_:Int,(wrap64 (25+x8_1))=j_:=⟨_,rfl⟩
    replace H:(if 0≤(ji13) then (if (ji13)<(x5_1.length:Int) then (spec_l09Mem.l0 k1 (x5_1.set ((ji13):Int).toNat t309) t306 (wrap64 (x8_1+1)) s0_0 t310 t311 l1_0) else (none)) else (none))=some (r1,r2,r3):=by first|(rw[hji13] at H;exact H)|(simp only[hji13] at H ⊢;exact H)
    (try rw[hji13] at A12)
    have hji13w:(IntKind.i64.wrap (25+x8_1))=ji13:=(i64_w _).trans hji13
    by_cases c14:0≤(ji13)
    ·rw[if_pos c14] at H
     have c14b0:decide (0≤(ji13))=true:=Zo c14
     clear c14
     by_cases c15:(ji13)<(x5_1.length:Int)
     ·rw[if_pos c15] at H
      have c15b0:decide ((ji13)<(x5_1.length:Int))=true:=Zo c15
      clear c15
      obtain⟨y312,hy312⟩:∃y_:List Int,y_=(x5_1.set ((ji13):Int).toNat t309):=⟨_,rfl⟩
      replace H:(spec_l09Mem.l0 k1 y312 t306 (wrap64 (x8_1+1)) s0_0 t310 t311 l1_0)=some (r1,r2,r3):=by first|(rw[hy312];with_reducible exact H)|(have H2_:=(Yd _ _).symm.trans H;rw[hy312];with_reducible exact H2_)|(have H2_:=(Yd _ _).symm.trans H;with_reducible exact H2_)|with_reducible exact H|(rw[hy312];exact H)|exact H
      have Ny312:=Za hy312
      clear hy312
      have H':=Za H
      clear H
      go_wp2_with (first|((first|((with_reducible refine gate_callee (f:=38) rfl ?_);refine goesL_ (some 28) rfl rfl Tryz.func38 z3_23 rfl #[.pointer (some ⟨g,0,none⟩),.int .i64 500] rfl z3_0 ?_;(with_reducible refine(spec_l01Below.calls g s0_0 x1001_1 x1002_1 500 t309 t310 t311 w0 _ ?side1 ?side2 A12.out).mono ?_))|(go_at_call 38;(with_reducible refine(spec_l01Below.calls g s0_0 x1001_1 x1002_1 500 t309 t310 t311 w0 _ ?side1 ?side2 A12.out).mono ?_)));(case side1=>exact z3_3);(case side2=>exact z3_6);rintro e w17 ⟨rfl,hi,hb,hk⟩;(first|refine⟨_,rfl,?_⟩|skip);replace HO_5:=Za (Yc (Kd.R_keep (IsS82.apart (show IsS82 w0 _ g s0_0 x1001_1 x1002_1 from by repeat(first|(with_reducible first|exact HI0.out|apply IsS82.alloc|apply IsS82.drewN|apply IsS82.drew|apply IsS82.set_1|apply IsS82.set_2|refine IsS82.far ?_ NB0_296.out _)|exact HI0.out)) z3_20 z3_31) hk (fun _ h=>h.2)) (fun _ h=>h.1));replace BK296:=Za (KeepBut.blk hk (g':=gb296) (o:= .cells #[.slice A1_0 l1_0.length c1_0] 26 (0,0)) z3_8 NB296_0.out (by simp));replace HK:=Za (KeepBut.trans z3_2 hk (.inl rfl));replace HB:=Za (hb);replace HI0:=Za (hi);(try clear hb);(try clear hb2);(try clear hk);(try clear hi);have p16:0≤((ji13):Int):=Zq z3_13;have q16:((ji13):Int)<((x5_1.length:Int):Int):=Zq z3_13;obtain⟨go16,co16,eo16,gb16,gl16,cl16,HG16⟩:=Kd.R_form HO_5.out (by omega);(first|cases eo16|(injection eo16 with ea_ en_ ec_;(first|subst ea_|(injection ea_ with ea_;subst ea_));subst ec_;clear en_));have GB16:=Za gb16;have GG16:=Za HG16;clear gb16 gl16 HG16;obtain⟨hx16_0,hf16_0⟩:=Kd.R_celln 0 HO_5.out ((ji13):Int) p16 q16;replace p16:=eq_true p16;replace q16:=eq_true q16;obtain⟨hy18_,hz18_⟩:=Kd.R_celln 0 HO_5.out ((ji13):Int) (Zq z3_13) (Zq z3_13);have HP18:=Kd.R_putg HO_5.out ((ji13):Int) t309)|((with_reducible refine Yq (t:=3) (p:=29) rfl ?_);refine Yp (t:=3) (p:=29) (v:= ?vo_w19) (w1:=(w17.setCell ⟨go16,((ji13):Int).toNat,none⟩ (.int .i64 t309))) ?hg ?ho ?hn ?hr ?_;(case ho=>rfl);(case hg=>rfl);(case hn=>rfl);(case hr=>exact z3_19);intro w19 hw;have hg:w17.grownBy w19 (some go16):=(by rw[hw];exact HP18.2);have hp_:Kd.R (Kd.int .i64) 3 w19 w.heap.size (fun _=>True) (.slice (some ⟨go16,0,none⟩) x5_1.length co16) y312:=(by rw[hw,Ny312.out];exact HP18.1);clear HP18;replace BK296:=Za (blk_grown (g:=gb296) (o:= .cells #[.slice A1_0 l1_0.length c1_0] 26 (0,0)) z3_8 hg (Kd.R_ne HO_5.out BK296.out z3_31));replace HI0:=Za (IsS82.grown z3_3 hg (IsS82.own_ne HI0.out HO_5.out z3_31));replace HB:=Za ((by rw[hw];exact Zd (HB.out) (Nat.le_trans HL.out GB16.out):Below w0.heap.size w0 w19));replace HK:=Za (KeepBut.trans z3_2 (KeepBut.of_grown hg g) (Kd.R_base2 HO_5.out));replace HO_5:=Za (hp_);clear hg hw hp_))
      go_roundg k1
      case measure=>have:=HK1.out;omega
      case rel=>exact⟨(y312),(wrap64 (x8_1+1)),(t310),(t311),z3_21,H',⟨by have:=HK1.out;omega⟩,⟨by(with_reducible repeat(first|apply Zm|apply Zl|apply Zj));exact HO_5.out⟩,⟨by(with_reducible repeat(first|refine blk_drewN ?_ _|refine blk_drew ?_|refine blk_alloc ?_ _));exact BK296.out⟩,⟨by repeat(first|(with_reducible first|exact HI0.out|apply IsS82.alloc|apply IsS82.drewN|apply IsS82.drew|apply IsS82.set_1|apply IsS82.set_2|refine IsS82.far ?_ NB0_296.out _)|exact HI0.out)⟩,⟨by repeat(first|(with_reducible first|exact HK.out|apply KeepBut.set_|apply keep_drewN|apply keep_drew|apply keep_alloc|refine keep_far ?_ GW296.out _)|exact HK.out)⟩,⟨by repeat(first|(with_reducible first|exact HB.out|apply Zh|apply Zf|apply Ze|refine Zd ?_ (IsS82.ge HI0.out)|refine Zd ?_ GE296.out)|exact HB.out)⟩⟩
     ·rw[if_neg c15] at H
      exact absurd H (by simp)
    ·rw[if_neg c14] at H
     exact absurd H (by simp)
   ·rw[if_neg c11] at H
    have c11b0:decide (x8_1<t306)=false:=Yg c11
    clear c11
    replace H:=Zg H
    obtain⟨⟨t313,t314,t315⟩,A200,H⟩:=H
    replace H:((spec_l01Below.f s0_0 t314 t315 4).bind fun bt316=>(spec_l09Mem.l1 k1 x5_1 t306 (wrap64 (t313*bt316.1)) 0 s0_0 bt316.2.1 bt316.2.2 l1_0))=some (r1,r2,r3):=H
    have A20:=Za A200
    clear A200
    replace H:=Zg H
    obtain⟨⟨t316,t317,t318⟩,A210,H⟩:=H
    replace H:(spec_l09Mem.l1 k1 x5_1 t306 (wrap64 (t313*t316)) 0 s0_0 t317 t318 l1_0)=some (r1,r2,r3):=H
    have A21:=Za A210
    clear A210
    have H':=Za H
    clear H
    go_wp2_with (first|((first|((with_reducible refine gate_callee (f:=38) rfl ?_);refine goesL_ (some 31) rfl rfl Tryz.func38 z3_23 rfl #[.pointer (some ⟨g,0,none⟩),.int .i64 2] rfl z3_0 ?_;(with_reducible refine(spec_l01Below.calls g s0_0 x1001_1 x1002_1 2 t313 t314 t315 w0 _ ?side1 ?side2 A20.out).mono ?_))|(go_at_call 38;(with_reducible refine(spec_l01Below.calls g s0_0 x1001_1 x1002_1 2 t313 t314 t315 w0 _ ?side1 ?side2 A20.out).mono ?_)));(case side1=>exact z3_3);(case side2=>exact z3_6);rintro e w22 ⟨rfl,hi,hb,hk⟩;(first|refine⟨_,rfl,?_⟩|skip);replace HO_5:=Za (Yc (Kd.R_keep (IsS82.apart (show IsS82 w0 _ g s0_0 x1001_1 x1002_1 from by repeat(first|(with_reducible first|exact HI0.out|apply IsS82.alloc|apply IsS82.drewN|apply IsS82.drew|apply IsS82.set_1|apply IsS82.set_2|refine IsS82.far ?_ NB0_296.out _)|exact HI0.out)) z3_20 z3_31) hk (fun _ h=>h.2)) (fun _ h=>h.1));replace BK296:=Za (KeepBut.blk hk (g':=gb296) (o:= .cells #[.slice A1_0 l1_0.length c1_0] 26 (0,0)) z3_8 NB296_0.out (by simp));replace HK:=Za (KeepBut.trans z3_2 hk (.inl rfl));replace HB:=Za (hb);replace HI0:=Za (hi);(try clear hb);(try clear hb2);(try clear hk);(try clear hi))|((first|((with_reducible refine gate_callee (f:=38) rfl ?_);refine goesL_ (some 33) rfl rfl Tryz.func38 z3_23 rfl #[.pointer (some ⟨g,0,none⟩),.int .i64 4] rfl z3_0 ?_;(with_reducible refine(spec_l01Below.calls g s0_0 t314 t315 4 t316 t317 t318 w0 _ ?side1 ?side2 A21.out).mono ?_))|(go_at_call 38;(with_reducible refine(spec_l01Below.calls g s0_0 t314 t315 4 t316 t317 t318 w0 _ ?side1 ?side2 A21.out).mono ?_)));(case side1=>exact z3_3);(case side2=>exact z3_6);rintro e w23 ⟨rfl,hi,hb,hk⟩;(first|refine⟨_,rfl,?_⟩|skip);replace HO_5:=Za (Yc (Kd.R_keep (IsS82.apart (show IsS82 w0 _ g s0_0 t314 t315 from by repeat(first|(with_reducible first|exact HI0.out|apply IsS82.alloc|apply IsS82.drewN|apply IsS82.drew|apply IsS82.set_1|apply IsS82.set_2|refine IsS82.far ?_ NB0_296.out _)|exact HI0.out)) z3_20 z3_31) hk (fun _ h=>h.2)) (fun _ h=>h.1));replace BK296:=Za (KeepBut.blk hk (g':=gb296) (o:= .cells #[.slice A1_0 l1_0.length c1_0] 26 (0,0)) z3_8 NB296_0.out (by simp));replace HK:=Za (KeepBut.trans z3_2 hk (.inl rfl));replace HB:=Za (hb);replace HI0:=Za (hi);(try clear hb);(try clear hb2);(try clear hk);(try clear hi)))
    go_loopg [10] k1 (fun kq v10 w'=>∃(x5_2:List Int) (x10_2:Int) (x1001_2:Int) (x1002_2:Int),v10= .int .i64 x10_2∧Aside0 (spec_l09Mem.l1 kq x5_2 t306 (wrap64 (t313*t316)) x10_2 s0_0 x1001_2 x1002_2 l1_0=some (r1,r2,r3))∧Aside0 (kq≤k1)∧Aside0 (Kd.R (Kd.int .i64) 3 w' w.heap.size (fun _=>True) v304 x5_2)∧Aside0 (w'.heap[gb296]? =some (.cells #[(.slice A1_0 l1_0.length c1_0)] 26 (0,0)))∧Aside0 (IsS82 w0 w' g s0_0 x1001_2 x1002_2)∧Aside0 (KeepBut w w' g none)∧Aside0 (Below w0.heap.size w0 w'))
    case atStart=>exact⟨(x5_1),(0),(t317),(t318),z3_21,H',⟨Nat.le_refl _⟩,⟨by(with_reducible repeat(first|apply Zm|apply Zl|apply Zj));exact HO_5.out⟩,⟨by(with_reducible repeat(first|refine blk_drewN ?_ _|refine blk_drew ?_|refine blk_alloc ?_ _));exact BK296.out⟩,⟨by repeat(first|(with_reducible first|exact HI0.out|apply IsS82.alloc|apply IsS82.drewN|apply IsS82.drew|apply IsS82.set_1|apply IsS82.set_2|refine IsS82.far ?_ NB0_296.out _)|exact HI0.out)⟩,⟨by repeat(first|(with_reducible first|exact HK.out|apply KeepBut.set_|apply keep_drewN|apply keep_drew|apply keep_alloc|refine keep_far ?_ GW296.out _)|exact HK.out)⟩,⟨by repeat(first|(with_reducible first|exact HB.out|apply Zh|apply Zf|apply Ze|refine Zd ?_ (IsS82.ge HI0.out)|refine Zd ?_ GE296.out)|exact HB.out)⟩⟩
    case round=>
     clear H'
     (try clear c11);(try clear c11b0)
     obtain⟨x5_2,x10_2,x1001_2,x1002_2,rfl,HA,HK2,HO_5,BK296,HI0,HK,HB⟩:=hrel
     cases gk with
     |zero=>exact absurd HA.out (by simp[spec_l09Mem.l1])
     |succ k2=>
      have H:=HA.out
      clear HA
      simp only[spec_l09Mem.l1] at H
      by_cases c24:x10_2<(wrap64 (t313*t316))
      ·rw[if_pos c24] at H
       have c24b0:decide (x10_2<(wrap64 (t313*t316)))=true:=Zo c24
       clear c24
       obtain⟨ji25,hji25⟩:∃j_:Int,(wrap64 (9+(wrap64 (2*x10_2))))=j_:=⟨_,rfl⟩
       replace H:(if 0≤(ji25) then (if (ji25)<(x5_2.length:Int) then ((spec_l01Below.f s0_0 x1001_2 x1002_2 900).bind fun bt320=>(if 0≤(wrap64 ((ji25)+1)) then (if (wrap64 ((ji25)+1))<(x5_2.length:Int) then (spec_l09Mem.l1 k2 ((x5_2.set ((ji25):Int).toNat x10_2).set ((wrap64 ((ji25)+1)):Int).toNat bt320.1) t306 (wrap64 (t313*t316)) (wrap64 (x10_2+1)) s0_0 bt320.2.1 bt320.2.2 l1_0) else (none)) else (none))) else (none)) else (none))=some (r1,r2,r3):=by first|(rw[hji25] at H;exact H)|(simp only[hji25] at H ⊢;exact H)
       have hji25w:(IntKind.i64.wrap (9+(wrap64 (2*x10_2))))=ji25:=(i64_w _).trans hji25
       by_cases c26:0≤(ji25)
       ·rw[if_pos c26] at H
        have c26b0:decide (0≤(ji25))=true:=Zo c26
        clear c26
        by_cases c27:(ji25)<(x5_2.length:Int)
        ·rw[if_pos c27] at H
         have c27b0:decide ((ji25)<(x5_2.length:Int))=true:=Zo c27
         clear c27
         obtain⟨y319,hy319⟩:∃y_:List Int,y_=(x5_2.set ((ji25):Int).toNat x10_2):=⟨_,rfl⟩
         replace H:((spec_l01Below.f s0_0 x1001_2 x1002_2 900).bind fun bt320=>(if 0≤(wrap64 ((ji25)+1)) then (if (wrap64 ((ji25)+1))<(x5_2.length:Int) then (spec_l09Mem.l1 k2 (y319.set ((wrap64 ((ji25)+1)):Int).toNat bt320.1) t306 (wrap64 (t313*t316)) (wrap64 (x10_2+1)) s0_0 bt320.2.1 bt320.2.2 l1_0) else (none)) else (none)))=some (r1,r2,r3):=by first|(rw[hy319];with_reducible exact H)|(have H2_:=(Yd _ _).symm.trans H;rw[hy319];with_reducible exact H2_)|(have H2_:=(Yd _ _).symm.trans H;with_reducible exact H2_)|with_reducible exact H|(rw[hy319];exact H)|exact H
         have Ny319:=Za hy319
         clear hy319
         replace H:=Zg H
         obtain⟨⟨t320,t321,t322⟩,A290,H⟩:=H
         replace H:(if 0≤(wrap64 ((ji25)+1)) then (if (wrap64 ((ji25)+1))<(x5_2.length:Int) then (spec_l09Mem.l1 k2 (y319.set ((wrap64 ((ji25)+1)):Int).toNat t320) t306 (wrap64 (t313*t316)) (wrap64 (x10_2+1)) s0_0 t321 t322 l1_0) else (none)) else (none))=some (r1,r2,r3):=H
         have A29:=Za A290
         clear A290
         obtain⟨ji30,hji30⟩:∃j_:Int,(wrap64 ((ji25)+1))=j_:=⟨_,rfl⟩
         replace H:(if 0≤(ji30) then (if (ji30)<(x5_2.length:Int) then (spec_l09Mem.l1 k2 (y319.set ((ji30):Int).toNat t320) t306 (wrap64 (t313*t316)) (wrap64 (x10_2+1)) s0_0 t321 t322 l1_0) else (none)) else (none))=some (r1,r2,r3):=by first|(rw[hji30] at H;exact H)|(simp only[hji30] at H ⊢;exact H)
         (try rw[hji30] at A29)
         have hji30w:(IntKind.i64.wrap ((ji25)+1))=ji30:=(i64_w _).trans hji30
         by_cases c31:0≤(ji30)
         ·rw[if_pos c31] at H
          have c31b0:decide (0≤(ji30))=true:=Zo c31
          clear c31
          by_cases c32:(ji30)<(x5_2.length:Int)
          ·rw[if_pos c32] at H
           have c32b0:decide ((ji30)<(x5_2.length:Int))=true:=Zo c32
           clear c32
           obtain⟨y323,hy323⟩:∃y_:List Int,y_=(y319.set ((ji30):Int).toNat t320):=⟨_,rfl⟩
           replace H:(spec_l09Mem.l1 k2 y323 t306 (wrap64 (t313*t316)) (wrap64 (x10_2+1)) s0_0 t321 t322 l1_0)=some (r1,r2,r3):=by first|(rw[hy323];with_reducible exact H)|(have H2_:=(Yd _ _).symm.trans H;rw[hy323];with_reducible exact H2_)|(have H2_:=(Yd _ _).symm.trans H;with_reducible exact H2_)|with_reducible exact H|(rw[hy323];exact H)|exact H
           have Ny323:=Za hy323
           clear hy323
           have H':=Za H
           clear H
           have p28:0≤((ji25):Int):=Zq z3_13
           have q28:((ji25):Int)<((x5_2.length:Int):Int):=Zq z3_13
           obtain⟨go28,co28,eo28,gb28,gl28,cl28,HG28⟩:=Kd.R_form HO_5.out (by omega)
           (first|cases eo28|(injection eo28 with ea_ en_ ec_;(first|subst ea_|(injection ea_ with ea_;subst ea_));subst ec_;clear en_))
           have GB28:=Za gb28
           have GG28:=Za HG28
           clear gb28 gl28 HG28
           obtain⟨hx28_0,hf28_0⟩:=Kd.R_celln 0 HO_5.out ((ji25):Int) p28 q28
           replace p28:=eq_true p28
           replace q28:=eq_true q28
           have HP34:=Kd.R_putg HO_5.out ((ji25):Int) x10_2
           go_wp2_with (first|((with_reducible refine Yq (t:=3) (p:=45) rfl ?_);refine Yp (t:=3) (p:=45) (v:= ?vo_w35) (w1:=(wr.setCell ⟨go28,((ji25):Int).toNat,none⟩ (.int .i64 x10_2))) ?hg ?ho ?hn ?hr ?_;(case ho=>rfl);(case hg=>rfl);(case hn=>rfl);(case hr=>exact z3_19);intro w35 hw;have hg:wr.grownBy w35 (some go28):=(by rw[hw];exact HP34.2);have hp_:Kd.R (Kd.int .i64) 3 w35 w.heap.size (fun _=>True) (.slice (some ⟨go28,0,none⟩) x5_2.length co28) y319:=(by rw[hw,Ny319.out];exact HP34.1);clear HP34;replace BK296:=Za (blk_grown (g:=gb296) (o:= .cells #[.slice A1_0 l1_0.length c1_0] 26 (0,0)) z3_8 hg (Kd.R_ne HO_5.out BK296.out z3_31));replace HI0:=Za (IsS82.grown z3_3 hg (IsS82.own_ne HI0.out HO_5.out z3_31));replace HB:=Za ((by rw[hw];exact Zd (HB.out) (Nat.le_trans HL.out GB28.out):Below w0.heap.size w0 w35));replace HK:=Za (KeepBut.trans z3_2 (KeepBut.of_grown hg g) (Kd.R_base2 HO_5.out));replace HO_5:=Za (hp_);clear hg hw hp_)|((first|((with_reducible refine gate_callee (f:=38) rfl ?_);refine goesL_ (some 52) rfl rfl Tryz.func38 z3_23 rfl #[.pointer (some ⟨g,0,none⟩),.int .i64 900] rfl z3_0 ?_;(with_reducible refine(spec_l01Below.calls g s0_0 x1001_2 x1002_2 900 t320 t321 t322 w0 _ ?side1 ?side2 A29.out).mono ?_))|(go_at_call 38;(with_reducible refine(spec_l01Below.calls g s0_0 x1001_2 x1002_2 900 t320 t321 t322 w0 _ ?side1 ?side2 A29.out).mono ?_)));(case side1=>exact z3_3);(case side2=>exact z3_6);rintro e w36 ⟨rfl,hi,hb,hk⟩;(first|refine⟨_,rfl,?_⟩|skip);replace HO_5:=Za (Yc (Kd.R_keep (IsS82.apart (show IsS82 w0 _ g s0_0 x1001_2 x1002_2 from by repeat(first|(with_reducible first|exact HI0.out|apply IsS82.alloc|apply IsS82.drewN|apply IsS82.drew|apply IsS82.set_1|apply IsS82.set_2|refine IsS82.far ?_ NB0_296.out _)|exact HI0.out)) z3_20 z3_31) hk (fun _ h=>h.2)) (fun _ h=>h.1));replace BK296:=Za (KeepBut.blk hk (g':=gb296) (o:= .cells #[.slice A1_0 l1_0.length c1_0] 26 (0,0)) z3_8 NB296_0.out (by simp));replace HK:=Za (KeepBut.trans z3_2 hk (.inl rfl));replace HB:=Za (hb);replace HI0:=Za (hi);(try clear hb);(try clear hb2);(try clear hk);(try clear hi);have p33:0≤((ji30):Int):=Zq z3_13;have q33:((ji30):Int)<((x5_2.length:Int):Int):=Zq z3_13;obtain⟨hx33_0,hf33_0⟩:=Kd.R_celln 0 HO_5.out ((ji30):Int) p33 q33;replace p33:=eq_true p33;replace q33:=eq_true q33;obtain⟨hy37_,hz37_⟩:=Kd.R_celln 0 HO_5.out ((ji30):Int) (Zq z3_13) (Zq z3_13);have HP37:=Kd.R_putg HO_5.out ((ji30):Int) t320)|((with_reducible refine Yq (t:=3) (p:=53) rfl ?_);refine Yp (t:=3) (p:=53) (v:= ?vo_w38) (w1:=(w36.setCell ⟨go28,((ji30):Int).toNat,none⟩ (.int .i64 t320))) ?hg ?ho ?hn ?hr ?_;(case ho=>rfl);(case hg=>rfl);(case hn=>rfl);(case hr=>exact z3_19);intro w38 hw;have hg:w36.grownBy w38 (some go28):=(by rw[hw];exact HP37.2);have hp_:Kd.R (Kd.int .i64) 3 w38 w.heap.size (fun _=>True) (.slice (some ⟨go28,0,none⟩) x5_2.length co28) y323:=(by rw[hw,Ny323.out];exact HP37.1);clear HP37;replace BK296:=Za (blk_grown (g:=gb296) (o:= .cells #[.slice A1_0 l1_0.length c1_0] 26 (0,0)) z3_8 hg (Kd.R_ne HO_5.out BK296.out z3_31));replace HI0:=Za (IsS82.grown z3_3 hg (IsS82.own_ne HI0.out HO_5.out z3_31));replace HB:=Za ((by rw[hw];exact Zd (HB.out) (Nat.le_trans HL.out GB28.out):Below w0.heap.size w0 w38));replace HK:=Za (KeepBut.trans z3_2 (KeepBut.of_grown hg g) (Kd.R_base2 HO_5.out));replace HO_5:=Za (hp_);clear hg hw hp_))
           go_roundg k2
           case measure=>have:=HK1.out;have:=HK2.out;omega
           case rel=>exact⟨(y323),(wrap64 (x10_2+1)),(t321),(t322),z3_21,H',⟨by have:=HK1.out;have:=HK2.out;omega⟩,⟨by(with_reducible repeat(first|apply Zm|apply Zl|apply Zj));exact HO_5.out⟩,⟨by(with_reducible repeat(first|refine blk_drewN ?_ _|refine blk_drew ?_|refine blk_alloc ?_ _));exact BK296.out⟩,⟨by repeat(first|(with_reducible first|exact HI0.out|apply IsS82.alloc|apply IsS82.drewN|apply IsS82.drew|apply IsS82.set_1|apply IsS82.set_2|refine IsS82.far ?_ NB0_296.out _)|exact HI0.out)⟩,⟨by repeat(first|(with_reducible first|exact HK.out|apply KeepBut.set_|apply keep_drewN|apply keep_drew|apply keep_alloc|refine keep_far ?_ GW296.out _)|exact HK.out)⟩,⟨by repeat(first|(with_reducible first|exact HB.out|apply Zh|apply Zf|apply Ze|refine Zd ?_ (IsS82.ge HI0.out)|refine Zd ?_ GE296.out)|exact HB.out)⟩⟩
          ·rw[if_neg c32] at H
           exact absurd H (by simp)
         ·rw[if_neg c31] at H
          exact absurd H (by simp)
        ·rw[if_neg c27] at H
         exact absurd H (by simp)
       ·rw[if_neg c26] at H
        exact absurd H (by simp)
      ·rw[if_neg c24] at H
       have c24b0:decide (x10_2<(wrap64 (t313*t316)))=false:=Yg c24
       clear c24
       replace H:=Zg H
       obtain⟨⟨t324,t325,t326⟩,A390,H⟩:=H
       replace H:((spec_PackControl.f t324 (wrap64 (t313*t316)) t306).bind fun t327=>(if 8<(x5_2.length:Int) then (some ((x5_2.set (8:Int).toNat t327),t325,t326)) else (none)))=some (r1,r2,r3):=H
       have A39:=Za A390
       clear A390
       replace H:=Zg H
       obtain⟨t327,A400,H⟩:=H
       replace H:(if 8<(x5_2.length:Int) then (some ((x5_2.set (8:Int).toNat t327),t325,t326)) else (none))=some (r1,r2,r3):=H
       have A40:=Za A400
       clear A400
       by_cases c41:8<(x5_2.length:Int)
       ·rw[if_pos c41] at H
        have c41b0:decide (8<(x5_2.length:Int))=true:=Zo c41
        have c41b1:decide (8<x5_2.length)=true:=Zo (by omega)
        clear c41
        obtain⟨y328,hy328⟩:∃y_:List Int,y_=(x5_2.set (8:Int).toNat t327):=⟨_,rfl⟩
        replace H:(some (y328,t325,t326))=some (r1,r2,r3):=by first|(rw[hy328];with_reducible exact H)|(have H2_:=(Yd _ _).symm.trans H;rw[hy328];with_reducible exact H2_)|(have H2_:=(Yd _ _).symm.trans H;with_reducible exact H2_)|with_reducible exact H|(rw[hy328];exact H)|exact H
        have Ny328:=Za hy328
        clear hy328
        simp only[Option.some.injEq,Prod.mk.injEq] at H
        obtain⟨rfl,rfl,rfl⟩:=H
        have hnb43:=NB296_0.out
        have hnc43:=NB0_296.out
        have hcz44_0:wr.cell? ⟨gb296,0,none⟩=some (.slice A1_0 l1_0.length c1_0):=(Zb BK296.out 0).trans rfl
        have hfz44_0:=Zc BK296.out 0
        go_wp2_with (first|((first|((with_reducible refine gate_callee (f:=38) rfl ?_);refine goesL_ (some 59) rfl rfl Tryz.func38 z3_23 rfl #[.pointer (some ⟨g,0,none⟩),.int .i64 (l1_0.length:Int)] rfl z3_0 ?_;(with_reducible refine(spec_l01Below.calls g s0_0 x1001_2 x1002_2 (l1_0.length:Int) t324 t325 t326 w0 _ ?side1 ?side2 A39.out).mono ?_))|(go_at_call 38;(with_reducible refine(spec_l01Below.calls g s0_0 x1001_2 x1002_2 (l1_0.length:Int) t324 t325 t326 w0 _ ?side1 ?side2 A39.out).mono ?_)));(case side1=>exact z3_3);(case side2=>exact z3_6);rintro e w45 ⟨rfl,hi,hb,hk⟩;(first|refine⟨_,rfl,?_⟩|skip);replace HO_5:=Za (Yc (Kd.R_keep (IsS82.apart (show IsS82 w0 _ g s0_0 x1001_2 x1002_2 from by repeat(first|(with_reducible first|exact HI0.out|apply IsS82.alloc|apply IsS82.drewN|apply IsS82.drew|apply IsS82.set_1|apply IsS82.set_2|refine IsS82.far ?_ NB0_296.out _)|exact HI0.out)) z3_20 z3_31) hk (fun _ h=>h.2)) (fun _ h=>h.1));replace BK296:=Za (KeepBut.blk hk (g':=gb296) (o:= .cells #[.slice A1_0 l1_0.length c1_0] 26 (0,0)) z3_8 NB296_0.out (by simp));replace HK:=Za (KeepBut.trans z3_2 hk (.inl rfl));replace HB:=Za (hb);replace HI0:=Za (hi);(try clear hb);(try clear hb2);(try clear hk);(try clear hi))|((first|((with_reducible refine gate_callee (f:=34) rfl ?_);refine goesL_ (some 62) rfl rfl Tryz.func34 z3_23 rfl #[.int .i64 t324,.int .i64 (wrap64 (t313*t316)),.int .i64 t306] rfl z3_0 ?_;(with_reducible refine(spec_PackControl.calls t324 (wrap64 (t313*t316)) t306 t327 _ A40.out).mono ?_))|(go_at_call 34;(with_reducible refine(spec_PackControl.calls t324 (wrap64 (t313*t316)) t306 t327 _ A40.out).mono ?_)));rintro e w' ⟨rfl,⟨nd,rfl⟩⟩;(first|refine⟨_,rfl,?_⟩|skip);(try(rw[drewN_self w45];generalize hq_:World.drewN w45 _=w45;have n0_:Aside0 (Kd.R (Kd.int .i64) 3 w45 w.heap.size (fun _=>True) v304 x5_2):=⟨by rw[←hq_];exact z3_20⟩;have n1_:Aside0 (w45.heap[gb296]? =some (.cells #[.slice A1_0 l1_0.length c1_0] 26 (0,0))):=⟨by rw[←hq_];exact z3_8⟩;have n2_:Aside0 (IsS82 w0 w45 g s0_0 t325 t326):=⟨by rw[←hq_];exact z3_3⟩;have n3_:Aside0 (KeepBut w w45 g none):=⟨by rw[←hq_];exact z3_2⟩;have n4_:Aside0 (Below w0.heap.size w0 w45):=⟨by rw[←hq_];exact z3_6⟩;clear HO_5 BK296 HI0 HK HB hq_;have HO_5:=n0_;have BK296:=n1_;have HI0:=n2_;have HK:=n3_;have HB:=n4_;clear n0_ n1_ n2_ n3_ n4_));(try(have hcuz46_0:w45.cell? ⟨gb296,0,none⟩=some (.slice A1_0 l1_0.length c1_0):=(Zb BK296.out 0).trans rfl;have hfuz46_0:=Zc BK296.out 0));have p42:0≤(8:Int):=(by omega);have q42:(8:Int)<((x5_2.length:Int):Int):=Zq z3_13;have qi42:(8<x5_2.length)=True:=eq_true (by omega);obtain⟨go42,co42,eo42,gb42,gl42,cl42,HG42⟩:=Kd.R_form HO_5.out (by omega);(first|cases eo42|(injection eo42 with ea_ en_ ec_;(first|subst ea_|(injection ea_ with ea_;subst ea_));subst ec_;clear en_));have GB42:=Za gb42;have GG42:=Za HG42;clear gb42 gl42 HG42;obtain⟨hx42_0,hf42_0⟩:=Kd.R_celln 0 HO_5.out (8:Int) p42 q42;(try rw[show((8:Int)).toNat=8 from rfl] at hx42_0);(try simp only[Nat.reduceMul,Nat.zero_mul,Nat.zero_add,Nat.reduceAdd] at hx42_0);(try rw[show((8:Int)).toNat=8 from rfl] at hf42_0);(try simp only[Nat.reduceMul,Nat.zero_mul,Nat.zero_add,Nat.reduceAdd] at hf42_0);replace p42:=eq_true p42;replace q42:=eq_true q42;obtain⟨hy47_,hz47_⟩:=Kd.R_celln 0 HO_5.out (8:Int) (by omega) (Zq z3_13);(try simp only[Int.reduceToNat,Int.toNat_zero,Int.toNat_ofNat,Nat.reduceMul,Nat.zero_mul,Nat.zero_add] at hy47_ hz47_);(try rw[show((8:Int)).toNat=8 from rfl] at hy47_);(try rw[show((8:Int)).toNat=8 from rfl] at hz47_);have HP47:=Kd.R_putg HO_5.out (8:Int) t327)|((with_reducible refine Yq (t:=3) (p:=63) rfl ?_);refine Yp (t:=3) (p:=63) (v:= ?vo_w48) (w1:=(w45.setCell ⟨go42,(8:Int).toNat,none⟩ (.int .i64 t327))) ?hg ?ho ?hn ?hr ?_;(case ho=>rfl);(case hg=>rfl);(case hn=>rfl);(case hr=>exact z3_19);intro w48 hw;have hg:w45.grownBy w48 (some go42):=(by rw[hw];exact HP47.2);have hp_:Kd.R (Kd.int .i64) 3 w48 w.heap.size (fun _=>True) (.slice (some ⟨go42,0,none⟩) x5_2.length co42) y328:=(by rw[hw,Ny328.out];exact HP47.1);clear HP47;replace BK296:=Za (blk_grown (g:=gb296) (o:= .cells #[.slice A1_0 l1_0.length c1_0] 26 (0,0)) z3_8 hg (Kd.R_ne HO_5.out BK296.out z3_31));replace HI0:=Za (IsS82.grown z3_3 hg (IsS82.own_ne HI0.out HO_5.out z3_31));replace HB:=Za ((by rw[hw];exact Zd (HB.out) (Nat.le_trans HL.out GB42.out):Below w0.heap.size w0 w48));replace HK:=Za (KeepBut.trans z3_2 (KeepBut.of_grown hg g) (Kd.R_base2 HO_5.out));replace HO_5:=Za (hp_);clear hg hw hp_))
        go_ret
        exact⟨_,by first|rfl|(simp[errW_none,errW_some]<;>rfl)|(simp[*,errW_none,errW_some]<;>rfl)|(simp[*,errW_none,errW_some,i64_w];done),by(with_reducible repeat(first|apply Zm|apply Zl|apply Zj));exact HO_5.out,by repeat(first|(with_reducible first|exact HI0.out|apply IsS82.alloc|apply IsS82.drewN|apply IsS82.drew|apply IsS82.set_1|apply IsS82.set_2|refine IsS82.far ?_ NB0_296.out _)|exact HI0.out),by repeat(first|(with_reducible first|exact HB.out|apply Zh|apply Zf|apply Ze|refine Zd ?_ (IsS82.ge HI0.out)|refine Zd ?_ GE296.out)|exact HB.out),by repeat(first|(with_reducible first|exact HK.out|apply KeepBut.set_|apply keep_drewN|apply keep_drew|apply keep_alloc|refine keep_far ?_ GW296.out _)|exact HK.out)⟩
       ·rw[if_neg c41] at H
        exact absurd H (by simp)
def spec_DrawMemory.f (k:Nat) (l0:List Int):Option ((List (S74))×List Int):=(spec_l01New.f k l0).bind fun bt330=>((spec_l06Program.f k bt330.1 bt330.2.1 bt330.2.2).bind fun bt334=>((spec_l09Mem.f k bt330.1 bt334.2.1 bt334.2.2 bt334.1).bind fun bt340=>(if 8<(bt340.1.length:Int) then ((spec_UnpackControl.f k (rd bt340.1 8)).bind fun bt346=>((spec_PackControl.f bt346.1 0 bt346.2.2).bind fun t349=>(some (bt334.1,(bt340.1.set (8:Int).toNat t349))))) else (none))))
theorem spec_DrawMemory.mono:∀a0 k,LeO (spec_DrawMemory.f k a0) (spec_DrawMemory.f (k+1) a0):=by
 intro a0 k
 unfold spec_DrawMemory.f
 repeat' first
   |(with_reducible exact spec_UnpackControl.mono _ _)
   |(with_reducible exact spec_l01New.mono _ _)
   |(with_reducible exact spec_l06Program.mono _ _ _ _)
   |(with_reducible exact spec_l09Mem.mono _ _ _ _ _)
   |(with_reducible exact Yj _)
   |(with_reducible exact Ya _)
   |(with_reducible refine Zz ?_ ?_)
   |(with_reducible refine Zx ?_ (fun _=> ?_))
   |exact spec_UnpackControl.mono _ _
   |exact spec_l01New.mono _ _
   |exact spec_l06Program.mono _ _ _ _
   |exact spec_l09Mem.mono _ _ _ _ _
   |exact Ya _
   |refine Zz ?_ ?_
   |refine Zx ?_ (fun _=> ?_)
set_option maxHeartbeats 8000000 in
set_option maxRecDepth 100000 in
theorem spec_DrawMemory.calls (k:Nat) (A0:Option Addr) (c0:Nat) (l0:List Int) (r1:List (S74)) (r2:List Int) (w:World) (hr0:Kd.C (Kd.int .u8) w A0 l0.length l0) (hc0:l0.length≤c0) (h:spec_DrawMemory.f k l0=some (r1,r2)):
  Calls Tryz.prog 8 #[.slice A0 l0.length c0] w fun e w'=>∃v0_ v1_:Value,e= .returned (.tuple #[.agg #[v0_],v1_])∧Kd.S k74 74 w' w.heap.size (fun _=>True) v0_ r1∧Kd.R (Kd.int .i64) 3 w' w.heap.size (fun _=>True) v1_ r2∧Below w.heap.size w w':=by
 have hu26:=Tryz.underlying26
 have HR0:=Za hr0
 have HC0:=Za hc0
 clear hr0 hc0
 have HB:=Za (Yb w.heap.size w)
 have H:((spec_l01New.f k l0).bind fun bt330=>((spec_l06Program.f k bt330.1 bt330.2.1 bt330.2.2).bind fun bt334=>((spec_l09Mem.f k bt330.1 bt334.2.1 bt334.2.2 bt334.1).bind fun bt340=>(if 8<(bt340.1.length:Int) then ((spec_UnpackControl.f k (rd bt340.1 8)).bind fun bt346=>((spec_PackControl.f bt346.1 0 bt346.2.2).bind fun t349=>(some (bt334.1,(bt340.1.set (8:Int).toNat t349))))) else (none)))))=some (r1,r2):=h
 clear h
 replace H:=Zg H
 obtain⟨⟨t330,t331,t332⟩,A20,H⟩:=H
 replace H:((spec_l06Program.f k t330 t331 t332).bind fun bt334=>((spec_l09Mem.f k t330 bt334.2.1 bt334.2.2 bt334.1).bind fun bt340=>(if 8<(bt340.1.length:Int) then ((spec_UnpackControl.f k (rd bt340.1 8)).bind fun bt346=>((spec_PackControl.f bt346.1 0 bt346.2.2).bind fun t349=>(some (bt334.1,(bt340.1.set (8:Int).toNat t349))))) else (none))))=some (r1,r2):=H
 have A2:=Za A20
 clear A20
 replace H:=Zg H
 obtain⟨⟨t334,t337,t338⟩,A30,H⟩:=H
 replace H:((spec_l09Mem.f k t330 t337 t338 t334).bind fun bt340=>(if 8<(bt340.1.length:Int) then ((spec_UnpackControl.f k (rd bt340.1 8)).bind fun bt346=>((spec_PackControl.f bt346.1 0 bt346.2.2).bind fun t349=>(some (t334,(bt340.1.set (8:Int).toNat t349))))) else (none)))=some (r1,r2):=H
 have A3:=Za A30
 clear A30
 replace H:=Zg H
 obtain⟨⟨t340,t343,t344⟩,A40,H⟩:=H
 replace H:(if 8<(t340.length:Int) then ((spec_UnpackControl.f k (rd t340 8)).bind fun bt346=>((spec_PackControl.f bt346.1 0 bt346.2.2).bind fun t349=>(some (t334,(t340.set (8:Int).toNat t349))))) else (none))=some (r1,r2):=H
 have A4:=Za A40
 clear A40
 by_cases c5:8<(t340.length:Int)
 ·rw[if_pos c5] at H
  have c5b0:decide (8<(t340.length:Int))=true:=Zo c5
  have c5b1:decide (8<t340.length)=true:=Zo (by omega)
  clear c5
  replace H:=Zg H
  obtain⟨⟨t346,t347,t348⟩,A60,H⟩:=H
  replace H:((spec_PackControl.f t346 0 t348).bind fun t349=>(some (t334,(t340.set (8:Int).toNat t349))))=some (r1,r2):=H
  have A6:=Za A60
  clear A60
  replace H:=Zg H
  obtain⟨t349,A70,H⟩:=H
  replace H:(some (t334,(t340.set (8:Int).toNat t349)))=some (r1,r2):=H
  have A7:=Za A70
  clear A70
  obtain⟨y350,hy350⟩:∃y_:List Int,y_=(t340.set (8:Int).toNat t349):=⟨_,rfl⟩
  replace H:(some (t334,y350))=some (r1,r2):=by first|(rw[hy350];with_reducible exact H)|(have H2_:=(Yd _ _).symm.trans H;rw[hy350];with_reducible exact H2_)|(have H2_:=(Yd _ _).symm.trans H;with_reducible exact H2_)|with_reducible exact H|(rw[hy350];exact H)|exact H
  have Ny350:=Za hy350
  clear hy350
  simp only[Option.some.injEq,Prod.mk.injEq] at H
  obtain⟨rfl,rfl⟩:=H
  go_enter Tryz.func8,Tryz.ntmps8
  go_wp2_with (first|((with_reducible refine Zr (N:=2) rfl ?_);refine Zy ?hg (N:=2) ?hd (cs:= #[.slice none 0 0]) (t:=26) ?hr ?_;(case hd=>rfl);(case hg=>rfl);(case hr=>exact z3_19);intro gb329 hg w9 hbox hb;have BK329:=Za (hbox);have GW329:=Za ((by rw[hg];exact(Yf z3_7):w.heap.size≤gb329));have GE329:=Za ((by rw[hg];exact(Yf z3_7):w.heap.size≤gb329));replace HB:=Za (Zk z3_7 hb);clear hb hbox hg)|((first|((with_reducible refine gate_callee (f:=31) rfl ?_);refine goesL_ (some 11) rfl rfl Tryz.func31 z3_23 rfl #[.slice A0 l0.length c0] rfl z3_0 ?_;(with_reducible refine(spec_l01New.calls k _ _ l0 t330 t331 t332 w _ ?side1 ?side2 ?side3 A2.out).mono ?_))|(go_at_call 31;(with_reducible refine(spec_l01New.calls k _ _ l0 t330 t331 t332 w _ ?side1 ?side2 ?side3 A2.out).mono ?_)));(case side1=>repeat(first|(with_reducible first|exact HB.out|apply Zh|apply Zf|apply Ze|refine Zd ?_ GE329.out)|exact HB.out));(case side2=>exact HR0.out);(case side3=>exact HC0.out);rintro e w10 ⟨g333,rfl,hi,hb,hb2⟩;(first|refine⟨_,rfl,?_⟩|skip);replace HB:=Za (hb);have HI333:=Za (hi);have NB333_329:=Za (IsS82.ne_blk hi (Zi (g:=gb329) (o:= .cells #[.slice none 0 0] 26 (0,0)) z3_10 hb2) z3_31);have NB329_333:=Za (Ne.symm (IsS82.ne_blk hi (Zi (g:=gb329) (o:= .cells #[.slice none 0 0] 26 (0,0)) z3_10 hb2) z3_31));replace BK329:=Za (Zi (g:=gb329) (o:= .cells #[.slice none 0 0] 26 (0,0)) z3_10 hb2);(try clear hb);(try clear hb2);(try clear hk);(try clear hi))|((first|((with_reducible refine gate_callee (f:=32) rfl ?_);refine goesL_ (some 13) rfl rfl Tryz.func32 z3_23 rfl #[.pointer (some ⟨g333,0,none⟩)] rfl z3_0 ?_;(with_reducible refine(spec_l06Program.calls k g333 t330 t331 t332 t334 t337 t338 w _ ?side1 ?side2 A3.out).mono ?_))|(go_at_call 32;(with_reducible refine(spec_l06Program.calls k g333 t330 t331 t332 t334 t337 t338 w _ ?side1 ?side2 A3.out).mono ?_)));(case side1=>exact z3_32);(case side2=>exact z3_14);rintro e w11 ⟨v335,rfl,ho0,hi,hb,hk⟩;(first|refine⟨_,rfl,?_⟩|skip);replace BK329:=Za (KeepBut.blk hk (g':=gb329) (o:= .cells #[.slice none 0 0] 26 (0,0)) z3_10 NB329_333.out (by simp));have HO336:=Za (Kd.S_lower ho0 (Yf z3_14));replace HB:=Za (hb);replace HI333:=Za (hi);(try clear hb);(try clear hb2);(try clear hk);(try clear hi);(try clear ho0))|((with_reducible refine Zr (N:=5) rfl ?_);refine Zy ?hg (N:=5) ?hd (cs:= #[.slice none 0 0]) (t:=26) ?hr ?_;(case hd=>rfl);(case hg=>rfl);(case hr=>exact z3_19);intro gb339 hg w12 hbox hb;replace HO336:=Za (Kd.S_below z3_26 hb);have BK339:=Za (hbox);have GW339:=Za ((by rw[hg];exact(Yf z3_14):w.heap.size≤gb339));have GE339:=Za ((by rw[hg];exact(Yf z3_14):w.heap.size≤gb339));replace HB:=Za (Zk z3_14 hb);have NB329_339:=Za ((by rw[hg];exact Nat.ne_of_lt (blk_lt (g:=gb329) (o:= .cells #[.slice none 0 0] 26 (0,0)) z3_10):gb329≠gb339));have NB339_329:=Za ((by rw[hg];exact Nat.ne_of_gt (blk_lt (g:=gb329) (o:= .cells #[.slice none 0 0] 26 (0,0)) z3_10):gb339≠gb329));replace BK329:=Za (Zi (g:=gb329) (o:= .cells #[.slice none 0 0] 26 (0,0)) z3_10 hb);have NB333_339:=Za ((by rw[hg];exact Nat.ne_of_lt (IsS82.lt (show IsS82 w _ g333 t330 t337 t338 from by repeat(first|(with_reducible first|exact HI333.out|apply IsS82.alloc|apply IsS82.drewN|apply IsS82.drew|apply IsS82.set_1|apply IsS82.set_2|refine IsS82.far ?_ NB333_329.out _)|exact HI333.out))):g333≠gb339));have NB339_333:=Za ((by rw[hg];exact Nat.ne_of_gt (IsS82.lt (show IsS82 w _ g333 t330 t337 t338 from by repeat(first|(with_reducible first|exact HI333.out|apply IsS82.alloc|apply IsS82.drewN|apply IsS82.drew|apply IsS82.set_1|apply IsS82.set_2|refine IsS82.far ?_ NB333_329.out _)|exact HI333.out))):gb339≠g333));replace HI333:=Za (IsS82.below z3_32 hb);clear hb hbox hg;obtain⟨Ao13,co13,eo13⟩:=Kd.S_slice HO336.out;subst eo13;have hnb14:=NB339_329.out;have hnc14:=NB329_339.out;have hnb15:=NB339_333.out;have hnc15:=NB333_339.out;have hcz16_0:w12.cell? ⟨gb339,0,none⟩=some (.slice none 0 0):=(Zb BK339.out 0).trans rfl;have hfz16_0:=Zc BK339.out 0)|((first|((with_reducible refine gate_callee (f:=33) rfl ?_);refine goesL_ (some 16) rfl rfl Tryz.func33 z3_23 rfl #[.pointer (some ⟨g333,0,none⟩),.agg #[.slice Ao13 t334.length co13]] rfl z3_0 ?_;(with_reducible refine(spec_l09Mem.calls k g333 t330 t337 t338 _ _ t334 t340 t343 t344 w _ ?side1 ?side2 ?side3 ?side4 A4.out).mono ?_))|(go_at_call 33;(with_reducible refine(spec_l09Mem.calls k g333 t330 t337 t338 _ _ t334 t340 t343 t344 w _ ?side1 ?side2 ?side3 ?side4 A4.out).mono ?_)));(case side1=>exact z3_16);(case side2=>exact z3_17);(case side3=>exact Kd.C_foot_own ((Kd.S_R (IsS82.apartS (show IsS82 w _ g333 t330 t337 t338 from by repeat(first|(with_reducible first|exact HI333.out|apply IsS82.alloc|apply IsS82.drewN|apply IsS82.drew|apply IsS82.set_1|apply IsS82.set_2|refine IsS82.far ?_ NB333_329.out _|refine IsS82.far ?_ NB333_339.out _)|exact HI333.out)) z3_27 z3_31))) (fun _ h_=>h_.2));(case side4=>exact(Kd.S_reads' HO336.out).2.1);rintro e w17 ⟨v341,rfl,ho0,hi,hb,hk⟩;(first|refine⟨_,rfl,?_⟩|skip);replace BK329:=Za (KeepBut.blk hk (g':=gb329) (o:= .cells #[.slice none 0 0] 26 (0,0)) (by(with_reducible repeat(first|refine blk_drewN ?_ _|refine blk_drew ?_|refine blk_alloc ?_ _));refine blk_far ?_ NB329_339.out _;(with_reducible repeat(first|refine blk_drewN ?_ _|refine blk_drew ?_|refine blk_alloc ?_ _));exact BK329.out) NB329_333.out (by simp));replace HO336:=Za (Kd.S_mono (Kd.S_keep (IsS82.apartS (show IsS82 w _ g333 t330 t337 t338 from by repeat(first|(with_reducible first|exact HI333.out|apply IsS82.alloc|apply IsS82.drewN|apply IsS82.drew|apply IsS82.set_1|apply IsS82.set_2|refine IsS82.far ?_ NB333_329.out _|refine IsS82.far ?_ NB333_339.out _)|exact HI333.out)) z3_27 z3_31) hk (fun _ h=>h.2)) (fun _ h=>h.1));replace BK339:=Za (KeepBut.blk hk (g':=gb339) (o:= .cells #[.slice Ao13 t334.length co13] 26 (0,0)) (by(with_reducible repeat(first|refine blk_drewN ?_ _|refine blk_drew ?_|refine blk_alloc ?_ _));refine blk_put (cs:= #[.slice none 0 0]) ?_ 0 _ rfl;(with_reducible repeat(first|refine blk_drewN ?_ _|refine blk_drew ?_|refine blk_alloc ?_ _));exact BK339.out) NB339_333.out (by simp));have HO342:=Za (Yr ho0 (Yf z3_17));replace HB:=Za (hb);replace HI333:=Za (hi);(try clear hb);(try clear hb2);(try clear hk);(try clear hi);(try clear ho0);obtain⟨Ao18,co18,eo18⟩:=Yn HO342.out;subst eo18;have p345:0≤(8:Int):=(by omega);have q345:8<(t340.length:Int):=Zq z3_13;obtain⟨ad345,e345,hx345_0⟩:=Kd.at_int (Ym HO342.out).2.2 8 p345 q345;cases e345;(try simp only[show(8:Int).toNat=8 from rfl,Nat.reduceMul,Nat.reduceEqDiff,Go.Addr.add,↓reduceIte] at hx345_0);have qi345:(8<t340.length)=True:=eq_true (by omega);(try rw[show((8:Int)).toNat=8 from rfl] at hx345_0);replace p345:=eq_true p345;replace q345:=eq_true q345)|((first|((with_reducible refine gate_callee (f:=26) rfl ?_);refine goesL_ (some 21) rfl rfl Tryz.func26 z3_23 rfl #[.int .i64 (rd t340 8)] rfl z3_0 ?_;(with_reducible refine(spec_UnpackControl.calls k (rd t340 8) t346 t347 t348 _ A6.out).mono ?_))|(go_at_call 26;(with_reducible refine(spec_UnpackControl.calls k (rd t340 8) t346 t347 t348 _ A6.out).mono ?_)));rintro e w' ⟨rfl,⟨nd,rfl⟩⟩;(first|refine⟨_,rfl,?_⟩|skip);(try(rw[drewN_self w17];generalize hq_:World.drewN w17 _=w17;have n0_:Aside0 (Kd.S k74 74 w17 w.heap.size (fun _=>True) (.slice Ao13 t334.length co13) t334):=⟨by rw[←hq_];exact z3_26⟩;have n1_:Aside0 (Kd.R (Kd.int .i64) 3 w17 w.heap.size (fun _=>True) (.slice (some ad345) t340.length co18) t340):=⟨by rw[←hq_];exact(by(with_reducible repeat(first|apply Zm|apply Zl|apply Zj));exact HO342.out)⟩;have n2_:Aside0 (w17.heap[gb329]? =some (.cells #[.slice none 0 0] 26 (0,0))):=⟨by rw[←hq_];exact z3_10⟩;have n3_:Aside0 (w17.heap[gb339]? =some (.cells #[.slice Ao13 t334.length co13] 26 (0,0))):=⟨by rw[←hq_];exact z3_30⟩;have n4_:Aside0 (IsS82 w w17 g333 t330 t343 t344):=⟨by rw[←hq_];exact z3_16⟩;have n5_:Aside0 (Below w.heap.size w w17):=⟨by rw[←hq_];exact z3_17⟩;clear HO336 HO342 BK329 BK339 HI333 HB hq_;have HO336:=n0_;have HO342:=n1_;have BK329:=n2_;have BK339:=n3_;have HI333:=n4_;have HB:=n5_;clear n0_ n1_ n2_ n3_ n4_ n5_));(try(have hcuz19_0:w17.cell? ⟨gb329,0,none⟩=some (.slice none 0 0):=(Zb BK329.out 0).trans rfl;have hfuz19_0:=Zc BK329.out 0));(try(have hcuz20_0:w17.cell? ⟨gb339,0,none⟩=some (.slice Ao13 t334.length co13):=(Zb BK339.out 0).trans rfl;have hfuz20_0:=Zc BK339.out 0)))|((first|((with_reducible refine gate_callee (f:=34) rfl ?_);refine goesL_ (some 28) rfl rfl Tryz.func34 z3_23 rfl #[.int .i64 t346,.int .i64 0,.int .i64 t348] rfl z3_0 ?_;(with_reducible refine(spec_PackControl.calls t346 0 t348 t349 _ A7.out).mono ?_))|(go_at_call 34;(with_reducible refine(spec_PackControl.calls t346 0 t348 t349 _ A7.out).mono ?_)));rintro e w' ⟨rfl,⟨nd,rfl⟩⟩;(first|refine⟨_,rfl,?_⟩|skip);(try(rw[drewN_self w17];generalize hq_:World.drewN w17 _=w17;have n0_:Aside0 (Kd.S k74 74 w17 w.heap.size (fun _=>True) (.slice Ao13 t334.length co13) t334):=⟨by rw[←hq_];exact z3_26⟩;have n1_:Aside0 (Kd.R (Kd.int .i64) 3 w17 w.heap.size (fun _=>True) (.slice (some ad345) t340.length co18) t340):=⟨by rw[←hq_];exact(by(with_reducible repeat(first|apply Zm|apply Zl|apply Zj));exact HO342.out)⟩;have n2_:Aside0 (w17.heap[gb329]? =some (.cells #[.slice none 0 0] 26 (0,0))):=⟨by rw[←hq_];exact z3_10⟩;have n3_:Aside0 (w17.heap[gb339]? =some (.cells #[.slice Ao13 t334.length co13] 26 (0,0))):=⟨by rw[←hq_];exact z3_30⟩;have n4_:Aside0 (IsS82 w w17 g333 t330 t343 t344):=⟨by rw[←hq_];exact z3_16⟩;have n5_:Aside0 (Below w.heap.size w w17):=⟨by rw[←hq_];exact z3_17⟩;clear HO336 HO342 BK329 BK339 HI333 HB hq_;have HO336:=n0_;have HO342:=n1_;have BK329:=n2_;have BK339:=n3_;have HI333:=n4_;have HB:=n5_;clear n0_ n1_ n2_ n3_ n4_ n5_));(try(have hcuz21_0:w17.cell? ⟨gb329,0,none⟩=some (.slice none 0 0):=(Zb BK329.out 0).trans rfl;have hfuz21_0:=Zc BK329.out 0));(try(have hcuz22_0:w17.cell? ⟨gb339,0,none⟩=some (.slice Ao13 t334.length co13):=(Zb BK339.out 0).trans rfl;have hfuz22_0:=Zc BK339.out 0));have p8:0≤(8:Int):=(by omega);have q8:(8:Int)<((t340.length:Int):Int):=Zq z3_13;have qi8:(8<t340.length)=True:=eq_true (by omega);obtain⟨go8,co8,eo8,gb8,gl8,cl8,HG8⟩:=Kd.R_form HO342.out (by omega);(first|cases eo8|(injection eo8 with ea_ en_ ec_;(first|subst ea_|(injection ea_ with ea_;subst ea_));subst ec_;clear en_));have GB8:=Za gb8;have GG8:=Za HG8;clear gb8 gl8 HG8;(first|simp only[add_plain] at hx345_0|skip);obtain⟨hx8_0,hf8_0⟩:=Kd.R_celln 0 HO342.out (8:Int) p8 q8;(try rw[show((8:Int)).toNat=8 from rfl] at hx8_0);(try simp only[Nat.reduceMul,Nat.zero_mul,Nat.zero_add,Nat.reduceAdd] at hx8_0);(try rw[show((8:Int)).toNat=8 from rfl] at hf8_0);(try simp only[Nat.reduceMul,Nat.zero_mul,Nat.zero_add,Nat.reduceAdd] at hf8_0);replace p8:=eq_true p8;replace q8:=eq_true q8;obtain⟨hy23_,hz23_⟩:=Kd.R_celln 0 HO342.out (8:Int) (by omega) (Zq z3_13);(try simp only[Int.reduceToNat,Int.toNat_zero,Int.toNat_ofNat,Nat.reduceMul,Nat.zero_mul,Nat.zero_add] at hy23_ hz23_);(try rw[show((8:Int)).toNat=8 from rfl] at hy23_);(try rw[show((8:Int)).toNat=8 from rfl] at hz23_);have HP23:=Kd.R_putg HO342.out (8:Int) t349)|((with_reducible refine Yq (t:=3) (p:=29) rfl ?_);refine Yp (t:=3) (p:=29) (v:= ?vo_w24) (w1:=(w17.setCell ⟨go8,(8:Int).toNat,none⟩ (.int .i64 t349))) ?hg ?ho ?hn ?hr ?_;(case ho=>rfl);(case hg=>rfl);(case hn=>rfl);(case hr=>exact z3_19);intro w24 hw;have hg:w17.grownBy w24 (some go8):=(by rw[hw];exact HP23.2);have hp_:Kd.R (Kd.int .i64) 3 w24 w.heap.size (fun _=>True) (.slice (some ⟨go8,0,none⟩) t340.length co18) y350:=(by rw[hw,Ny350.out];exact HP23.1);clear HP23;replace BK329:=Za (blk_grown (g:=gb329) (o:= .cells #[.slice none 0 0] 26 (0,0)) z3_10 hg (Kd.R_ne HO342.out BK329.out z3_31));replace HI333:=Za (IsS82.grown z3_16 hg (IsS82.own_ne HI333.out HO342.out z3_31));replace HO336:=Za (Kd.S_over' (v:=(.slice (some ⟨go8,0,none⟩) t340.length co18)) z3_26 (Kd.R_typed HO342.out) z3_31 hg);replace BK339:=Za (blk_grown (g:=gb339) (o:= .cells #[.slice Ao13 t334.length co13] 26 (0,0)) z3_30 hg (Kd.R_ne HO342.out BK339.out z3_31));replace HO342:=Za (hp_);replace HB:=Za ((by rw[hw];exact Zd (HB.out) GB8.out:Below w.heap.size w w24));clear hg hw hp_;have hcz25_0:w24.cell? ⟨gb339,0,none⟩=some (.slice Ao13 t334.length co13):=(Zb BK339.out 0).trans rfl;have hfz25_0:=Zc BK339.out 0;have hnb26:=NB329_333.out;have hnc26:=NB333_329.out;have hcz27_0:w24.cell? ⟨gb329,0,none⟩=some (.slice none 0 0):=(Zb BK329.out 0).trans rfl;have hfz27_0:=Zc BK329.out 0))
  refine bodyPost_ret (results_ct rfl _ _ gb329 26 #[.slice Ao13 t334.length co13] (0,0) _ rfl (by(with_reducible repeat(first|refine blk_drewN ?_ _|refine blk_drew ?_|refine blk_alloc ?_ _));refine blk_put (cs:= #[.slice none 0 0]) ?_ 0 _ rfl;(with_reducible repeat(first|refine blk_drewN ?_ _|refine blk_drew ?_|refine blk_alloc ?_ _));exact BK329.out) Tryz.underlying26 rfl z3_23) rfl ?_
  exact⟨_,_,by first|rfl|(simp[errW_none,errW_some]<;>rfl)|(simp[*,errW_none,errW_some]<;>rfl)|(simp[*,errW_none,errW_some,i64_w];done),by(with_reducible repeat(first|apply Kd.S_alloc|apply Kd.S_drewN|apply Kd.S_drew));exact Kd.S_mono (Kd.S_far (p:=⟨gb329,0,none⟩) (Kd.S_types HO336.out BK329.out z3_31) (fun _ hk=>hk.2) (.slice Ao13 t334.length co13)) (fun _ hk=>trivial),by(with_reducible repeat(first|apply Zm|apply Zl|apply Zj));exact Yc (Kd.R_far (p:=⟨gb329,0,none⟩) (Kd.R_types HO342.out BK329.out z3_31) (fun _ hk=>hk.2) (.slice Ao13 t334.length co13)) (fun _ hk=>trivial),by repeat(first|(with_reducible first|exact HB.out|apply Zh|apply Zf|apply Ze|refine Zd ?_ (IsS82.ge HI333.out)|refine Zd ?_ GE329.out|refine Zd ?_ GE339.out)|exact HB.out)⟩
 ·rw[if_neg c5] at H
  exact absurd H (by simp)
def spec_l12Readings.l0:Nat→List Int→Int→List Int→Int→Int→Option (List Int×Int×Int)
 |0,_,_,_,_,_=>none
 |k+1,x3,x4,x1000,x1001,x1002=>(spec_l01Below.f x1000 x1001 x1002 9).bind fun bt354=>(if x4<(wrap64 (1+bt354.1)) then ((spec_l01Below.f x1000 bt354.2.1 bt354.2.2 800).bind fun bt357=>(if x3.length<17592186044416 then (spec_l12Readings.l0 k (x3++[wrap64 (bt357.1 - 200)]) (wrap64 (x4+1)) x1000 bt357.2.1 bt357.2.2) else (none))) else (some (x3,bt354.2.1,bt354.2.2)))
def spec_l12Readings.f (k:Nat) (s0_0:List Int) (s0_1:Int) (s0_2:Int):Option (List Int×Int×Int):=spec_l12Readings.l0 k (([]:List Int)) 0 s0_0 s0_1 s0_2
theorem spec_l12Readings.mono_l:∀k,(∀y0 y1 y2 y3 y4,LeO (spec_l12Readings.l0 k y0 y1 y2 y3 y4) (spec_l12Readings.l0 (k+1) y0 y1 y2 y3 y4))
 |0=>fun _ _ _ _ _ r h=>by simp[spec_l12Readings.l0] at h
 |k+1=>by
  have ih0:=spec_l12Readings.mono_l k
  ·intro y0 y1 y2 y3 y4
   unfold spec_l12Readings.l0
   repeat' first
   |(with_reducible exact ih0 _ _ _ _ _)
   |(with_reducible exact Yj _)
   |(with_reducible exact Ya _)
   |(with_reducible refine Zz ?_ ?_)
   |(with_reducible refine Zx ?_ (fun _=> ?_))
   |exact ih0 _ _ _ _ _
   |exact Ya _
   |refine Zz ?_ ?_
   |refine Zx ?_ (fun _=> ?_)
theorem spec_l12Readings.mono:∀a0 a1 a2 k,LeO (spec_l12Readings.f k a0 a1 a2) (spec_l12Readings.f (k+1) a0 a1 a2):=by
 intro a0 a1 a2 k
 have ih0:=spec_l12Readings.mono_l k
 unfold spec_l12Readings.f
 repeat' first
   |(with_reducible exact ih0 _ _ _ _ _)
   |(with_reducible exact Yj _)
   |(with_reducible exact Ya _)
   |(with_reducible refine Zz ?_ ?_)
   |(with_reducible refine Zx ?_ (fun _=> ?_))
   |exact ih0 _ _ _ _ _
   |exact Ya _
   |refine Zz ?_ ?_
   |refine Zx ?_ (fun _=> ?_)
set_option maxHeartbeats 8000000 in
set_option maxRecDepth 100000 in
theorem spec_l12Readings.calls (k:Nat) (g:Nat) (s0_0:List Int) (s0_1:Int) (s0_2:Int) (r1:List Int) (r2:Int) (r3:Int) (w0 w:World) (hI:IsS82 w0 w g s0_0 s0_1 s0_2) (hB:Below w0.heap.size w0 w) (h:spec_l12Readings.f k s0_0 s0_1 s0_2=some (r1,r2,r3)):
  Calls Tryz.prog 35 #[.pointer (some ⟨g,0,none⟩)] w fun e w'=>∃v0_:Value,e= .returned (v0_)∧Kd.R (Kd.int .i64) 3 w' w.heap.size (fun _=>True) v0_ r1∧IsS82 w0 w' g s0_0 r2 r3∧Below w0.heap.size w0 w'∧KeepBut w w' g none:=by
 have HI0:=Za hI
 have HK:=Za (KeepBut.refl w g none)
 have HL:=Za hB.size
 clear hI
 have HW0:=Za hB.size
 have HB:=Za hB
 clear hB
 have H:(spec_l12Readings.l0 k (([]:List Int)) 0 s0_0 s0_1 s0_2)=some (r1,r2,r3):=h
 clear h
 obtain⟨y351,hy351⟩:∃y_:List Int,y_=(([]:List Int)):=⟨_,rfl⟩
 replace H:(spec_l12Readings.l0 k y351 0 s0_0 s0_1 s0_2)=some (r1,r2,r3):=by first|(rw[hy351];with_reducible exact H)|(have H2_:=(Yd _ _).symm.trans H;rw[hy351];with_reducible exact H2_)|(have H2_:=(Yd _ _).symm.trans H;with_reducible exact H2_)|with_reducible exact H|(rw[hy351];exact H)|exact H
 have Ny351:=Za hy351
 clear hy351
 have H':=Za H
 clear H
 go_enter Tryz.func35,Tryz.ntmps35
 go_wp2_with (first|((with_reducible refine Zr (N:=5) rfl ?_);refine Kd.R_lit (Kd.int .i64) _ 3 ?hg (N:=5) ?hd (xs:=([]:List Int)) (inner:=[]) (ok:=fun _=>True) (okp:=fun _=>True) ?hr ?hp (fun _ hk=>hk) trivial (Yb _ _) (Nat.le_refl _) (by simp) ?_;(case hd=>rfl);(case hg=>rfl);(case hr=>exact z3_19);(case hp=>exact(Reps.none _ _));intro v352 w2 ho3 hb hg_ hnew_;clear hg_ hnew_;(first|rw[←Ny351.out] at ho3|(simp only[Int.reduceToNat] at ho3;rw[←Ny351.out] at ho3));have HO353:=Za (Yr ho3 (keep_size (w:=w) (g:=g) (row:=none) z3_1));replace HK:=Za (KeepBut.trans z3_1 (KeepBut.of_below hb g none) (.inl rfl));replace HB:=Za (Zk z3_4 hb);replace HI0:=Za (IsS82.below z3_5 hb);clear hb ho3))
 go_loopg [3,4] k (fun kq v3 v4 w'=>∃(x3_1:List Int) (x4_1:Int) (x1001_1:Int) (x1002_1:Int),v4= .int .i64 x4_1∧Aside0 (spec_l12Readings.l0 kq x3_1 x4_1 s0_0 x1001_1 x1002_1=some (r1,r2,r3))∧Aside0 (kq≤k)∧Aside0 (Kd.R (Kd.int .i64) 3 w' w.heap.size (fun _=>True) v3 x3_1)∧Aside0 (IsS82 w0 w' g s0_0 x1001_1 x1002_1)∧Aside0 (KeepBut w w' g none)∧Aside0 (Below w0.heap.size w0 w'))
 case atStart=>exact⟨(y351),(0),(s0_1),(s0_2),z3_21,H',⟨Nat.le_refl _⟩,⟨by(with_reducible repeat(first|apply Zm|apply Zl|apply Zj));exact HO353.out⟩,⟨by repeat(first|(with_reducible first|exact HI0.out|apply IsS82.alloc|apply IsS82.drewN|apply IsS82.drew|apply IsS82.set_1|apply IsS82.set_2)|exact HI0.out)⟩,⟨by repeat(first|(with_reducible first|exact HK.out|apply KeepBut.set_|apply keep_drewN|apply keep_drew|apply keep_alloc)|exact HK.out)⟩,⟨by repeat(first|(with_reducible first|exact HB.out|apply Zh|apply Zf|apply Ze|refine Zd ?_ (IsS82.ge HI0.out))|exact HB.out)⟩⟩
 case round=>
  clear H'
  obtain⟨x3_1,x4_1,x1001_1,x1002_1,rfl,HA,HK1,HO_3,HI0,HK,HB⟩:=hrel
  cases gk with
  |zero=>exact absurd HA.out (by simp[spec_l12Readings.l0])
  |succ k1=>
   have H:=HA.out
   clear HA
   simp only[spec_l12Readings.l0] at H
   replace H:=Zg H
   obtain⟨⟨t354,t355,t356⟩,A40,H⟩:=H
   replace H:(if x4_1<(wrap64 (1+t354)) then ((spec_l01Below.f s0_0 t355 t356 800).bind fun bt357=>(if x3_1.length<17592186044416 then (spec_l12Readings.l0 k1 (x3_1++[wrap64 (bt357.1 - 200)]) (wrap64 (x4_1+1)) s0_0 bt357.2.1 bt357.2.2) else (none))) else (some (x3_1,t355,t356)))=some (r1,r2,r3):=H
   have A4:=Za A40
   clear A40
   by_cases c5:x4_1<(wrap64 (1+t354))
   ·rw[if_pos c5] at H
    have c5b0:decide (x4_1<(wrap64 (1+t354)))=true:=Zo c5
    clear c5
    replace H:=Zg H
    obtain⟨⟨t357,t358,t359⟩,A60,H⟩:=H
    replace H:(if x3_1.length<17592186044416 then (spec_l12Readings.l0 k1 (x3_1++[wrap64 (t357 - 200)]) (wrap64 (x4_1+1)) s0_0 t358 t359) else (none))=some (r1,r2,r3):=H
    have A6:=Za A60
    clear A60
    by_cases c7:x3_1.length<17592186044416
    ·rw[if_pos c7] at H
     have LMc7:=Za c7
     clear c7
     obtain⟨y360,hy360⟩:∃y_:List Int,y_=(x3_1++[wrap64 (t357 - 200)]):=⟨_,rfl⟩
     replace H:(spec_l12Readings.l0 k1 y360 (wrap64 (x4_1+1)) s0_0 t358 t359)=some (r1,r2,r3):=by first|(rw[hy360];with_reducible exact H)|(have H2_:=(Yd _ _).symm.trans H;rw[hy360];with_reducible exact H2_)|(have H2_:=(Yd _ _).symm.trans H;with_reducible exact H2_)|with_reducible exact H|(rw[hy360];exact H)|exact H
     have Ny360:=Za hy360
     clear hy360
     have H':=Za H
     clear H
     go_wp2_with (first|((first|((with_reducible refine gate_callee (f:=38) rfl ?_);refine goesL_ (some 8) rfl rfl Tryz.func38 z3_23 rfl #[.pointer (some ⟨g,0,none⟩),.int .i64 9] rfl z3_0 ?_;(with_reducible refine(spec_l01Below.calls g s0_0 x1001_1 x1002_1 9 t354 t355 t356 w0 _ ?side1 ?side2 A4.out).mono ?_))|(go_at_call 38;(with_reducible refine(spec_l01Below.calls g s0_0 x1001_1 x1002_1 9 t354 t355 t356 w0 _ ?side1 ?side2 A4.out).mono ?_)));(case side1=>exact z3_5);(case side2=>exact z3_4);rintro e w8 ⟨rfl,hi,hb,hk⟩;(first|refine⟨_,rfl,?_⟩|skip);replace HO_3:=Za (Yc (Kd.R_keep (IsS82.apart (show IsS82 w0 _ g s0_0 x1001_1 x1002_1 from by repeat(first|(with_reducible first|exact HI0.out|apply IsS82.alloc|apply IsS82.drewN|apply IsS82.drew|apply IsS82.set_1|apply IsS82.set_2)|exact HI0.out)) z3_18 z3_31) hk (fun _ h=>h.2)) (fun _ h=>h.1));replace HK:=Za (KeepBut.trans z3_1 hk (.inl rfl));replace HB:=Za (hb);replace HI0:=Za (hi);(try clear hb);(try clear hb2);(try clear hk);(try clear hi))|((first|((with_reducible refine gate_callee (f:=38) rfl ?_);refine goesL_ (some 15) rfl rfl Tryz.func38 z3_23 rfl #[.pointer (some ⟨g,0,none⟩),.int .i64 800] rfl z3_0 ?_;(with_reducible refine(spec_l01Below.calls g s0_0 t355 t356 800 t357 t358 t359 w0 _ ?side1 ?side2 A6.out).mono ?_))|(go_at_call 38;(with_reducible refine(spec_l01Below.calls g s0_0 t355 t356 800 t357 t358 t359 w0 _ ?side1 ?side2 A6.out).mono ?_)));(case side1=>exact z3_5);(case side2=>exact z3_4);rintro e w9 ⟨rfl,hi,hb,hk⟩;(first|refine⟨_,rfl,?_⟩|skip);replace HO_3:=Za (Yc (Kd.R_keep (IsS82.apart (show IsS82 w0 _ g s0_0 t355 t356 from by repeat(first|(with_reducible first|exact HI0.out|apply IsS82.alloc|apply IsS82.drewN|apply IsS82.drew|apply IsS82.set_1|apply IsS82.set_2)|exact HI0.out)) z3_18 z3_31) hk (fun _ h=>h.2)) (fun _ h=>h.1));replace HK:=Za (KeepBut.trans z3_1 hk (.inl rfl));replace HB:=Za (hb);replace HI0:=Za (hi);(try clear hb);(try clear hb2);(try clear hk);(try clear hi))|((with_reducible refine gate_builtin (b:= .append) (xs:= #[.tmp 13,.tmp 17]) rfl ?_);at_builtin;refine Kd.R_append (Kd.int .i64) w.heap.size rfl (.tmp 13) (.tmp 17) 27 3 (.int .i64 0) 8 rfl Tryz.underlying27 info3 rfl z3_31 (by omega) u3 x3_1 (wrap64 (t357 - 200)) [.int .i64 (wrap64 (t357 - 200))] (fun _=>True) (fun _=>False) rfl rfl ?aP (fun _ hk=>hk.elim) ?aF ?aO (Yb _ _) ?aS ?aL ?_;(case aP=>exact rfl);(case aF=>exact(fun _ _=>trivial));(case aO=>exact z3_18);(case aS=>exact(keep_size (w:=w) (g:=g) (row:=none) z3_1));(case aL=>have:=LMc7.out;omega);intro v361 w10 ho hb hg hat;rw[←Ny360.out] at ho;have n0_:=Za (IsS82.grown z3_5 hg (IsS82.own_ne HI0.out HO_3.out z3_31));have n1_:=Za (below_weaken z3_4 HL.out hb);have n2_:=Za (KeepBut.trans z3_1 (KeepBut.of_grown hg g) (Kd.R_base2 HO_3.out));have n3_:=Za (ho);clear HI0;clear HB;clear HK;clear HO_3;have HI0:=n0_;have HB:=n1_;have HK:=n2_;have HO362:=n3_;clear n0_ n1_ n2_ n3_;clear ho hb hg hat))
     go_roundg k1
     case measure=>have:=HK1.out;omega
     case rel=>exact⟨(y360),(wrap64 (x4_1+1)),(t358),(t359),z3_21,H',⟨by have:=HK1.out;omega⟩,⟨by(with_reducible repeat(first|apply Zm|apply Zl|apply Zj));exact HO362.out⟩,⟨by repeat(first|(with_reducible first|exact HI0.out|apply IsS82.alloc|apply IsS82.drewN|apply IsS82.drew|apply IsS82.set_1|apply IsS82.set_2)|exact HI0.out)⟩,⟨by repeat(first|(with_reducible first|exact HK.out|apply KeepBut.set_|apply keep_drewN|apply keep_drew|apply keep_alloc)|exact HK.out)⟩,⟨by repeat(first|(with_reducible first|exact HB.out|apply Zh|apply Zf|apply Ze|refine Zd ?_ (IsS82.ge HI0.out))|exact HB.out)⟩⟩
    ·rw[if_neg c7] at H
     exact absurd H (by simp)
   ·rw[if_neg c5] at H
    have c5b0:decide (x4_1<(wrap64 (1+t354)))=false:=Yg c5
    clear c5
    simp only[Option.some.injEq,Prod.mk.injEq] at H
    obtain⟨rfl,rfl,rfl⟩:=H
    go_wp2_with (first|((first|((with_reducible refine gate_callee (f:=38) rfl ?_);refine goesL_ (some 8) rfl rfl Tryz.func38 z3_23 rfl #[.pointer (some ⟨g,0,none⟩),.int .i64 9] rfl z3_0 ?_;(with_reducible refine(spec_l01Below.calls g s0_0 x1001_1 x1002_1 9 t354 t355 t356 w0 _ ?side1 ?side2 A4.out).mono ?_))|(go_at_call 38;(with_reducible refine(spec_l01Below.calls g s0_0 x1001_1 x1002_1 9 t354 t355 t356 w0 _ ?side1 ?side2 A4.out).mono ?_)));(case side1=>exact z3_5);(case side2=>exact z3_4);rintro e w11 ⟨rfl,hi,hb,hk⟩;(first|refine⟨_,rfl,?_⟩|skip);replace HO_3:=Za (Yc (Kd.R_keep (IsS82.apart (show IsS82 w0 _ g s0_0 x1001_1 x1002_1 from by repeat(first|(with_reducible first|exact HI0.out|apply IsS82.alloc|apply IsS82.drewN|apply IsS82.drew|apply IsS82.set_1|apply IsS82.set_2)|exact HI0.out)) z3_18 z3_31) hk (fun _ h=>h.2)) (fun _ h=>h.1));replace HK:=Za (KeepBut.trans z3_1 hk (.inl rfl));replace HB:=Za (hb);replace HI0:=Za (hi);(try clear hb);(try clear hb2);(try clear hk);(try clear hi)))
    go_ret
    exact⟨_,by first|rfl|(simp[errW_none,errW_some]<;>rfl)|(simp[*,errW_none,errW_some]<;>rfl)|(simp[*,errW_none,errW_some,i64_w];done),by(with_reducible repeat(first|apply Zm|apply Zl|apply Zj));exact HO_3.out,by repeat(first|(with_reducible first|exact HI0.out|apply IsS82.alloc|apply IsS82.drewN|apply IsS82.drew|apply IsS82.set_1|apply IsS82.set_2)|exact HI0.out),by repeat(first|(with_reducible first|exact HB.out|apply Zh|apply Zf|apply Ze|refine Zd ?_ (IsS82.ge HI0.out))|exact HB.out),by repeat(first|(with_reducible first|exact HK.out|apply KeepBut.set_|apply keep_drewN|apply keep_drew|apply keep_alloc)|exact HK.out)⟩
def spec_DrawReadings.f (k:Nat) (l0:List Int):Option (List Int):=(spec_l01New.f k l0).bind fun bt363=>((spec_l12Readings.f k bt363.1 bt363.2.1 bt363.2.2).bind fun bt367=>(some bt367.1))
theorem spec_DrawReadings.mono:∀a0 k,LeO (spec_DrawReadings.f k a0) (spec_DrawReadings.f (k+1) a0):=by
 intro a0 k
 unfold spec_DrawReadings.f
 repeat' first
   |(with_reducible exact spec_l01New.mono _ _)
   |(with_reducible exact spec_l12Readings.mono _ _ _ _)
   |(with_reducible exact Yj _)
   |(with_reducible exact Ya _)
   |(with_reducible refine Zz ?_ ?_)
   |(with_reducible refine Zx ?_ (fun _=> ?_))
   |exact spec_l01New.mono _ _
   |exact spec_l12Readings.mono _ _ _ _
   |exact Ya _
   |refine Zz ?_ ?_
   |refine Zx ?_ (fun _=> ?_)
set_option maxHeartbeats 8000000 in
set_option maxRecDepth 100000 in
theorem spec_DrawReadings.calls (k:Nat) (A0:Option Addr) (c0:Nat) (l0:List Int) (r:List Int) (w:World) (hr0:Kd.C (Kd.int .u8) w A0 l0.length l0) (hc0:l0.length≤c0) (h:spec_DrawReadings.f k l0=some r):
  Calls Tryz.prog 9 #[.slice A0 l0.length c0] w fun e w'=>∃v0_:Value,e= .returned (v0_)∧Kd.R (Kd.int .i64) 3 w' w.heap.size (fun _=>True) v0_ r∧Below w.heap.size w w':=by
 have HR0:=Za hr0
 have HC0:=Za hc0
 clear hr0 hc0
 have HB:=Za (Yb w.heap.size w)
 have H:((spec_l01New.f k l0).bind fun bt363=>((spec_l12Readings.f k bt363.1 bt363.2.1 bt363.2.2).bind fun bt367=>(some bt367.1)))=some r:=h
 clear h
 replace H:=Zg H
 obtain⟨⟨t363,t364,t365⟩,A20,H⟩:=H
 replace H:((spec_l12Readings.f k t363 t364 t365).bind fun bt367=>(some bt367.1))=some r:=H
 have A2:=Za A20
 clear A20
 replace H:=Zg H
 obtain⟨⟨t367,t370,t371⟩,A30,H⟩:=H
 replace H:(some t367)=some r:=H
 have A3:=Za A30
 clear A30
 obtain rfl:=Zn H
 go_enter Tryz.func9,Tryz.ntmps9
 go_wp2_with (first|((first|((with_reducible refine gate_callee (f:=31) rfl ?_);refine goesL_ (some 4) rfl rfl Tryz.func31 z3_23 rfl #[.slice A0 l0.length c0] rfl z3_0 ?_;(with_reducible refine(spec_l01New.calls k _ _ l0 t363 t364 t365 w _ ?side1 ?side2 ?side3 A2.out).mono ?_))|(go_at_call 31;(with_reducible refine(spec_l01New.calls k _ _ l0 t363 t364 t365 w _ ?side1 ?side2 ?side3 A2.out).mono ?_)));(case side1=>exact z3_7);(case side2=>exact HR0.out);(case side3=>exact HC0.out);rintro e w4 ⟨g366,rfl,hi,hb,hb2⟩;(first|refine⟨_,rfl,?_⟩|skip);replace HB:=Za (hb);have HI366:=Za (hi);(try clear hb);(try clear hb2);(try clear hk);(try clear hi))|((first|((with_reducible refine gate_callee (f:=35) rfl ?_);refine goesL_ (some 5) rfl rfl Tryz.func35 z3_23 rfl #[.pointer (some ⟨g366,0,none⟩)] rfl z3_0 ?_;(with_reducible refine(spec_l12Readings.calls k g366 t363 t364 t365 t367 t370 t371 w _ ?side1 ?side2 A3.out).mono ?_))|(go_at_call 35;(with_reducible refine(spec_l12Readings.calls k g366 t363 t364 t365 t367 t370 t371 w _ ?side1 ?side2 A3.out).mono ?_)));(case side1=>repeat(first|(with_reducible first|exact HI366.out|apply IsS82.alloc|apply IsS82.drewN|apply IsS82.drew|apply IsS82.set_1|apply IsS82.set_2)|exact HI366.out));(case side2=>repeat(first|(with_reducible first|exact HB.out|apply Zh|apply Zf|apply Ze|refine Zd ?_ (IsS82.ge HI366.out))|exact HB.out));rintro e w5 ⟨v368,rfl,ho0,hi,hb,hk⟩;(first|refine⟨_,rfl,?_⟩|skip);have HO369:=Za (Yr ho0 (Yf (by repeat(first|(with_reducible first|exact HB.out|apply Zh|apply Zf|apply Ze|refine Zd ?_ (IsS82.ge HI366.out))|exact HB.out))));replace HB:=Za (hb);replace HI366:=Za (hi);(try clear hb);(try clear hb2);(try clear hk);(try clear hi);(try clear ho0)))
 go_ret
 exact⟨_,by first|rfl|(simp[errW_none,errW_some]<;>rfl)|(simp[*,errW_none,errW_some]<;>rfl)|(simp[*,errW_none,errW_some,i64_w];done),by(with_reducible repeat(first|apply Zm|apply Zl|apply Zj));exact HO369.out,by repeat(first|(with_reducible first|exact HB.out|apply Zh|apply Zf|apply Ze|refine Zd ?_ (IsS82.ge HI366.out))|exact HB.out)⟩
def impl_within.f (a0:Int) (a1:Int) (a2:Int):Option (Bool):=if a0≥a1 then (some (decide (a0≤a2))) else (some false)
set_option maxHeartbeats 8000000 in
set_option maxRecDepth 100000 in
theorem impl_within.calls (a0:Int) (a1:Int) (a2:Int) (r:Bool) (w:World) (h:impl_within.f a0 a1 a2=some r):
  Calls Tryz.prog 41 #[.int .i64 a0,.int .i64 a1,.int .i64 a2] w fun e w'=>e= .returned (.bool r)∧Drawn0 w w':=by
 have H:(if a0≥a1 then (some (decide (a0≤a2))) else (some false))=some r:=h
 clear h
 by_cases c4:a0≥a1
 ·rw[if_pos c4] at H
  have c4b0:decide (a1≤a0)=true:=Zo c4
  clear c4
  obtain rfl:=Zn H
  go_enter Tryz.func41,Tryz.ntmps41
  go_wp2
  go_ret
  exact⟨by first|rfl|(simp;done)|(simp[*];done),by repeat(first|exact Zv _|apply Zw)⟩
 ·rw[if_neg c4] at H
  have c4b0:decide (a1≤a0)=false:=Yg c4
  clear c4
  obtain rfl:=Zn H
  go_enter Tryz.func41,Tryz.ntmps41
  go_wp2
  go_ret
  exact⟨by first|rfl|(simp;done)|(simp[*];done),by repeat(first|exact Zv _|apply Zw)⟩
def impl_PackControl.f (a0:Int) (a1:Int) (a2:Int):Option (Int):=(impl_within.f a0 0 5).bind fun t372=>(if t372=true then ((impl_within.f a1 0 8).bind fun t373=>(if t373=true then ((impl_within.f a2 0 24).bind fun t374=>(if t374=true then (some (wrap64 (a0+(wrap64 (8*(wrap64 (a1+(wrap64 (16*a2))))))))) else (some (-1)))) else (some (-1)))) else (some (-1)))
set_option maxHeartbeats 8000000 in
set_option maxRecDepth 100000 in
theorem impl_PackControl.calls (a0:Int) (a1:Int) (a2:Int) (r:Int) (w:World) (h:impl_PackControl.f a0 a1 a2=some r):
  Calls Tryz.prog 43 #[.int .i64 a0,.int .i64 a1,.int .i64 a2] w fun e w'=>e= .returned (.int .i64 r)∧Drawn0 w w':=by
 have H:((impl_within.f a0 0 5).bind fun t372=>(if t372=true then ((impl_within.f a1 0 8).bind fun t373=>(if t373=true then ((impl_within.f a2 0 24).bind fun t374=>(if t374=true then (some (wrap64 (a0+(wrap64 (8*(wrap64 (a1+(wrap64 (16*a2))))))))) else (some (-1)))) else (some (-1)))) else (some (-1))))=some r:=h
 clear h
 replace H:=Zg H
 obtain⟨t372,A40,H⟩:=H
 replace H:(if t372=true then ((impl_within.f a1 0 8).bind fun t373=>(if t373=true then ((impl_within.f a2 0 24).bind fun t374=>(if t374=true then (some (wrap64 (a0+(wrap64 (8*(wrap64 (a1+(wrap64 (16*a2))))))))) else (some (-1)))) else (some (-1)))) else (some (-1)))=some r:=H
 have A4:=Za A40
 clear A40
 by_cases c5:t372=true
 ·subst c5
  rw[if_pos rfl] at H
  replace H:=Zg H
  obtain⟨t373,A60,H⟩:=H
  replace H:(if t373=true then ((impl_within.f a2 0 24).bind fun t374=>(if t374=true then (some (wrap64 (a0+(wrap64 (8*(wrap64 (a1+(wrap64 (16*a2))))))))) else (some (-1)))) else (some (-1)))=some r:=H
  have A6:=Za A60
  clear A60
  by_cases c7:t373=true
  ·subst c7
   rw[if_pos rfl] at H
   replace H:=Zg H
   obtain⟨t374,A80,H⟩:=H
   replace H:(if t374=true then (some (wrap64 (a0+(wrap64 (8*(wrap64 (a1+(wrap64 (16*a2))))))))) else (some (-1)))=some r:=H
   have A8:=Za A80
   clear A80
   by_cases c9:t374=true
   ·subst c9
    rw[if_pos rfl] at H
    obtain rfl:=Zn H
    go_enter Tryz.func43,Tryz.ntmps43
    go_wp2_with (first|((first|((with_reducible refine gate_callee (f:=41) rfl ?_);refine goesL_ (some 8) rfl rfl Tryz.func41 z3_23 rfl #[.int .i64 a0,.int .i64 0,.int .i64 5] rfl z3_0 ?_;(with_reducible refine(impl_within.calls a0 0 5 true _ A4.out).mono ?_))|(go_at_call 41;(with_reducible refine(impl_within.calls a0 0 5 true _ A4.out).mono ?_)));rintro e w' ⟨rfl,⟨nd,rfl⟩⟩;(first|refine⟨_,rfl,?_⟩|skip))|(go_at_call 41;(with_reducible refine(impl_within.calls a1 0 8 true _ A6.out).mono ?_);rintro e w' ⟨rfl,⟨nd,rfl⟩⟩)|(go_at_call 41;(with_reducible refine(impl_within.calls a2 0 24 true _ A8.out).mono ?_);rintro e w' ⟨rfl,⟨nd,rfl⟩⟩))
    go_ret
    exact⟨by first|rfl|(simp;done)|(simp[*];done),by repeat(first|exact Zv _|apply Zw)⟩
   ·replace c9:=Bool.eq_false_iff.mpr c9
    subst c9
    rw[if_neg (show ¬(false=true) by decide)] at H
    obtain rfl:=Zn H
    go_enter Tryz.func43,Tryz.ntmps43
    go_wp2_with (first|((first|((with_reducible refine gate_callee (f:=41) rfl ?_);refine goesL_ (some 8) rfl rfl Tryz.func41 z3_23 rfl #[.int .i64 a0,.int .i64 0,.int .i64 5] rfl z3_0 ?_;(with_reducible refine(impl_within.calls a0 0 5 true _ A4.out).mono ?_))|(go_at_call 41;(with_reducible refine(impl_within.calls a0 0 5 true _ A4.out).mono ?_)));rintro e w' ⟨rfl,⟨nd,rfl⟩⟩;(first|refine⟨_,rfl,?_⟩|skip))|(go_at_call 41;(with_reducible refine(impl_within.calls a1 0 8 true _ A6.out).mono ?_);rintro e w' ⟨rfl,⟨nd,rfl⟩⟩)|(go_at_call 41;(with_reducible refine(impl_within.calls a2 0 24 false _ A8.out).mono ?_);rintro e w' ⟨rfl,⟨nd,rfl⟩⟩))
    go_ret
    exact⟨by first|rfl|(simp;done)|(simp[*];done),by repeat(first|exact Zv _|apply Zw)⟩
  ·replace c7:=Bool.eq_false_iff.mpr c7
   subst c7
   rw[if_neg (show ¬(false=true) by decide)] at H
   obtain rfl:=Zn H
   go_enter Tryz.func43,Tryz.ntmps43
   go_wp2_with (first|((first|((with_reducible refine gate_callee (f:=41) rfl ?_);refine goesL_ (some 8) rfl rfl Tryz.func41 z3_23 rfl #[.int .i64 a0,.int .i64 0,.int .i64 5] rfl z3_0 ?_;(with_reducible refine(impl_within.calls a0 0 5 true _ A4.out).mono ?_))|(go_at_call 41;(with_reducible refine(impl_within.calls a0 0 5 true _ A4.out).mono ?_)));rintro e w' ⟨rfl,⟨nd,rfl⟩⟩;(first|refine⟨_,rfl,?_⟩|skip))|(go_at_call 41;(with_reducible refine(impl_within.calls a1 0 8 false _ A6.out).mono ?_);rintro e w' ⟨rfl,⟨nd,rfl⟩⟩))
   go_ret
   exact⟨by first|rfl|(simp;done)|(simp[*];done),by repeat(first|exact Zv _|apply Zw)⟩
 ·replace c5:=Bool.eq_false_iff.mpr c5
  subst c5
  rw[if_neg (show ¬(false=true) by decide)] at H
  obtain rfl:=Zn H
  go_enter Tryz.func43,Tryz.ntmps43
  go_wp2_with (first|((first|((with_reducible refine gate_callee (f:=41) rfl ?_);refine goesL_ (some 8) rfl rfl Tryz.func41 z3_23 rfl #[.int .i64 a0,.int .i64 0,.int .i64 5] rfl z3_0 ?_;(with_reducible refine(impl_within.calls a0 0 5 false _ A4.out).mono ?_))|(go_at_call 41;(with_reducible refine(impl_within.calls a0 0 5 false _ A4.out).mono ?_)));rintro e w' ⟨rfl,⟨nd,rfl⟩⟩;(first|refine⟨_,rfl,?_⟩|skip)))
  go_ret
  exact⟨by first|rfl|(simp;done)|(simp[*];done),by repeat(first|exact Zv _|apply Zw)⟩
def impl_UnpackControl.f (a0:Int):Option (Int×Int×Int):=if a0<0 then (some ((-1),(-1),(-1))) else ((impl_PackControl.f (Int.tmod a0 8) (Int.tmod (wrap64 (Int.tdiv a0 8)) 16) (wrap64 (Int.tdiv a0 128))).bind fun t375=>(if t375=a0 then (some (Int.tmod a0 8,Int.tmod (wrap64 (Int.tdiv a0 8)) 16,wrap64 (Int.tdiv a0 128))) else (some ((-1),(-1),(-1)))))
set_option maxHeartbeats 8000000 in
set_option maxRecDepth 100000 in
theorem impl_UnpackControl.calls (a0:Int) (r1:Int) (r2:Int) (r3:Int) (w:World) (h:impl_UnpackControl.f a0=some (r1,r2,r3)):
  Calls Tryz.prog 29 #[.int .i64 a0] w fun e w'=>e= .returned (.tuple #[.int .i64 r1,.int .i64 r2,.int .i64 r3])∧Drawn0 w w':=by
 have H:(if a0<0 then (some ((-1),(-1),(-1))) else ((impl_PackControl.f (Int.tmod a0 8) (Int.tmod (wrap64 (Int.tdiv a0 8)) 16) (wrap64 (Int.tdiv a0 128))).bind fun t375=>(if t375=a0 then (some (Int.tmod a0 8,Int.tmod (wrap64 (Int.tdiv a0 8)) 16,wrap64 (Int.tdiv a0 128))) else (some ((-1),(-1),(-1))))))=some (r1,r2,r3):=h
 clear h
 by_cases c2:a0<0
 ·rw[if_pos c2] at H
  have c2b0:decide (a0<0)=true:=Zo c2
  clear c2
  simp only[Option.some.injEq,Prod.mk.injEq] at H
  obtain⟨rfl,rfl,rfl⟩:=H
  go_enter Tryz.func29,Tryz.ntmps29
  go_wp2
  go_ret3
  exact⟨by first|rfl|(simp;done)|(simp[*];done),by repeat(first|exact Zv _|apply Zw)⟩
 ·rw[if_neg c2] at H
  have c2b0:decide (a0<0)=false:=Yg c2
  clear c2
  replace H:=Zg H
  obtain⟨t375,A30,H⟩:=H
  replace H:(if t375=a0 then (some (Int.tmod a0 8,Int.tmod (wrap64 (Int.tdiv a0 8)) 16,wrap64 (Int.tdiv a0 128))) else (some ((-1),(-1),(-1))))=some (r1,r2,r3):=H
  have A3:=Za A30
  clear A30
  by_cases c4:t375=a0
  ·rw[if_pos c4] at H
   have c4b0:(t375==a0)=true:=beq_iff_eq.mpr c4
   have c4b1:(t375 != a0)=false:=bne_eq_false_iff_eq.mpr c4
   clear c4
   simp only[Option.some.injEq,Prod.mk.injEq] at H
   obtain⟨rfl,rfl,rfl⟩:=H
   go_enter Tryz.func29,Tryz.ntmps29
   go_wp2_with (first|(go_at_call 43;(with_reducible refine(impl_PackControl.calls (Int.tmod a0 8) (Int.tmod (wrap64 (Int.tdiv a0 8)) 16) (wrap64 (Int.tdiv a0 128)) t375 _ A3.out).mono ?_);rintro e w' ⟨rfl,⟨nd,rfl⟩⟩))
   go_ret3
   exact⟨by first|rfl|(simp;done)|(simp[*];done),by repeat(first|exact Zv _|apply Zw)⟩
  ·rw[if_neg c4] at H
   have c4b0:(t375==a0)=false:=beq_eq_false_iff_ne.mpr c4
   have c4b1:(t375 != a0)=true:=bne_iff_ne.mpr c4
   simp only[Option.some.injEq,Prod.mk.injEq] at H
   obtain⟨rfl,rfl,rfl⟩:=H
   go_enter Tryz.func29,Tryz.ntmps29
   go_wp2_with (first|(go_at_call 43;(with_reducible refine(impl_PackControl.calls (Int.tmod a0 8) (Int.tmod (wrap64 (Int.tdiv a0 8)) 16) (wrap64 (Int.tdiv a0 128)) t375 _ A3.out).mono ?_);rintro e w' ⟨rfl,⟨nd,rfl⟩⟩))
   go_ret3
   exact⟨by first|rfl|(simp;done)|(simp[*];done),by repeat(first|exact Zv _|apply Zw)⟩
def impl_IsClean.f (l0:List Int):Option (Bool):=if (l0.length:Int)=49 then (if 8<(l0.length:Int) then ((impl_UnpackControl.f (rd l0 8)).bind fun bt377=>(some (bt377.2.1==0))) else (none)) else (some false)
set_option maxHeartbeats 8000000 in
set_option maxRecDepth 100000 in
theorem impl_IsClean.calls (A0:Option Addr) (c0:Nat) (l0:List Int) (r:Bool) (w:World) (hr0:Kd.C (Kd.int .i64) w A0 l0.length l0) (hc0:l0.length≤c0) (h:impl_IsClean.f l0=some r):
  Calls Tryz.prog 21 #[.slice A0 l0.length c0] w fun e w'=>e= .returned (.bool r)∧Drawn0 w w':=by
 have HR0:=Za hr0
 have HC0:=Za hc0
 clear hr0 hc0
 have H:(if (l0.length:Int)=49 then (if 8<(l0.length:Int) then ((impl_UnpackControl.f (rd l0 8)).bind fun bt377=>(some (bt377.2.1==0))) else (none)) else (some false))=some r:=h
 clear h
 by_cases c2:(l0.length:Int)=49
 ·rw[if_pos c2] at H
  have c2b0:((l0.length:Int)==49)=true:=beq_iff_eq.mpr c2
  have c2b1:((l0.length:Int) != 49)=false:=bne_eq_false_iff_eq.mpr c2
  clear c2
  by_cases c3:8<(l0.length:Int)
  ·rw[if_pos c3] at H
   have c3b0:decide (8<(l0.length:Int))=true:=Zo c3
   have c3b1:decide (8<l0.length)=true:=Zo (by omega)
   clear c3
   replace H:=Zg H
   obtain⟨⟨t377,t378,t379⟩,A40,H⟩:=H
   replace H:(some (t378==0))=some r:=H
   have A4:=Za A40
   clear A40
   obtain rfl:=Zn H
   have p376:0≤(8:Int):=(by omega)
   have q376:8<(l0.length:Int):=Zq z3_13
   obtain⟨ad376,e376,hx376_0⟩:=Kd.at_int HR0.out 8 p376 q376
   cases e376
   (try simp only[show(8:Int).toNat=8 from rfl,Nat.reduceMul,Nat.reduceEqDiff,Go.Addr.add,↓reduceIte] at hx376_0)
   have qi376:(8<l0.length)=True:=eq_true (by omega)
   (try rw[show((8:Int)).toNat=8 from rfl] at hx376_0)
   replace p376:=eq_true p376
   replace q376:=eq_true q376
   go_enter Tryz.func21,Tryz.ntmps21
   go_wp2_with (first|((first|((with_reducible refine gate_callee (f:=29) rfl ?_);refine goesL_ (some 13) rfl rfl Tryz.func29 z3_23 rfl #[.int .i64 (rd l0 8)] rfl z3_0 ?_;(with_reducible refine(impl_UnpackControl.calls (rd l0 8) t377 t378 t379 _ A4.out).mono ?_))|(go_at_call 29;(with_reducible refine(impl_UnpackControl.calls (rd l0 8) t377 t378 t379 _ A4.out).mono ?_)));rintro e w' ⟨rfl,⟨nd,rfl⟩⟩;(first|refine⟨_,rfl,?_⟩|skip)))
   go_ret
   exact⟨by first|rfl|(simp;done)|(simp[*];done),by repeat(first|exact Zv _|apply Zw)⟩
  ·rw[if_neg c3] at H
   exact absurd H (by simp)
 ·rw[if_neg c2] at H
  have c2b0:((l0.length:Int)==49)=false:=beq_eq_false_iff_ne.mpr c2
  have c2b1:((l0.length:Int) != 49)=true:=bne_iff_ne.mpr c2
  obtain rfl:=Zn H
  go_enter Tryz.func21,Tryz.ntmps21
  go_wp2
  go_ret
  exact⟨by first|rfl|(simp;done)|(simp[*];done),by repeat(first|exact Zv _|apply Zw)⟩
def impl_isVar.f (a0:Int):Option (Bool):=(impl_within.f a0 0 7).bind fun t380=>(some t380)
set_option maxHeartbeats 8000000 in
set_option maxRecDepth 100000 in
theorem impl_isVar.calls (a0:Int) (r:Bool) (w:World) (h:impl_isVar.f a0=some r):
  Calls Tryz.prog 42 #[.int .i64 a0] w fun e w'=>e= .returned (.bool r)∧Drawn0 w w':=by
 have H:((impl_within.f a0 0 7).bind fun t380=>(some t380))=some r:=h
 clear h
 replace H:=Zg H
 obtain⟨t380,A20,H⟩:=H
 replace H:(some t380)=some r:=H
 have A2:=Za A20
 clear A20
 obtain rfl:=Zn H
 go_enter Tryz.func42,Tryz.ntmps42
 go_wp2_with (first|((first|((with_reducible refine gate_callee (f:=41) rfl ?_);refine goesL_ (some 4) rfl rfl Tryz.func41 z3_23 rfl #[.int .i64 a0,.int .i64 0,.int .i64 7] rfl z3_0 ?_;(with_reducible refine(impl_within.calls a0 0 7 t380 _ A2.out).mono ?_))|(go_at_call 41;(with_reducible refine(impl_within.calls a0 0 7 t380 _ A2.out).mono ?_)));rintro e w' ⟨rfl,⟨nd,rfl⟩⟩;(first|refine⟨_,rfl,?_⟩|skip)))
 go_ret
 exact⟨by first|rfl|(simp;done)|(simp[*];done),by repeat(first|exact Zv _|apply Zw)⟩
def impl_isOpening.f (a0:Int):Option (Bool):=if a0=4 then (some true) else (some (a0==5))
set_option maxHeartbeats 8000000 in
set_option maxRecDepth 100000 in
theorem impl_isOpening.calls (a0:Int) (r:Bool) (w:World) (h:impl_isOpening.f a0=some r):
  Calls Tryz.prog 94 #[.int .i64 a0] w fun e w'=>e= .returned (.bool r)∧Drawn0 w w':=by
 have H:(if a0=4 then (some true) else (some (a0==5)))=some r:=h
 clear h
 by_cases c2:a0=4
 ·rw[if_pos c2] at H
  have c2b0:(a0==4)=true:=beq_iff_eq.mpr c2
  have c2b1:(a0 != 4)=false:=bne_eq_false_iff_eq.mpr c2
  clear c2
  obtain rfl:=Zn H
  go_enter Tryz.func94,Tryz.ntmps94
  go_wp2
  go_ret
  exact⟨by first|rfl|(simp;done)|(simp[*];done),by repeat(first|exact Zv _|apply Zw)⟩
 ·rw[if_neg c2] at H
  have c2b0:(a0==4)=false:=beq_eq_false_iff_ne.mpr c2
  have c2b1:(a0 != 4)=true:=bne_iff_ne.mpr c2
  obtain rfl:=Zn H
  go_enter Tryz.func94,Tryz.ntmps94
  go_wp2
  go_ret
  exact⟨by first|rfl|(simp;done)|(simp[*];done),by repeat(first|exact Zv _|apply Zw)⟩
def impl_OperandOk.f (a0:Int):Option (Bool):=(impl_within.f a0 (-8) 999).bind fun t381=>(some t381)
set_option maxHeartbeats 8000000 in
set_option maxRecDepth 100000 in
theorem impl_OperandOk.calls (a0:Int) (r:Bool) (w:World) (h:impl_OperandOk.f a0=some r):
  Calls Tryz.prog 123 #[.int .i64 a0] w fun e w'=>e= .returned (.bool r)∧Drawn0 w w':=by
 have H:((impl_within.f a0 (-8) 999).bind fun t381=>(some t381))=some r:=h
 clear h
 replace H:=Zg H
 obtain⟨t381,A20,H⟩:=H
 replace H:(some t381)=some r:=H
 have A2:=Za A20
 clear A20
 obtain rfl:=Zn H
 go_enter Tryz.func123,Tryz.ntmps123
 go_wp2_with (first|((first|((with_reducible refine gate_callee (f:=41) rfl ?_);refine goesL_ (some 4) rfl rfl Tryz.func41 z3_23 rfl #[.int .i64 a0,.int .i64 (-8),.int .i64 999] rfl z3_0 ?_;(with_reducible refine(impl_within.calls a0 (-8) 999 t381 _ A2.out).mono ?_))|(go_at_call 41;(with_reducible refine(impl_within.calls a0 (-8) 999 t381 _ A2.out).mono ?_)));rintro e w' ⟨rfl,⟨nd,rfl⟩⟩;(first|refine⟨_,rfl,?_⟩|skip)))
 go_ret
 exact⟨by first|rfl|(simp;done)|(simp[*];done),by repeat(first|exact Zv _|apply Zw)⟩
end Go.Proofs.YtjgfldbogjipiaaGreat.G
