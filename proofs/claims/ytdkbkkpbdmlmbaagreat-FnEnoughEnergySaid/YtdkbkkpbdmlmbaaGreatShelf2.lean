/- slices.DeleteFunc at whole numbers: the library's contract laid at this program, and what it makes of a row of the call's own. No condition. -/
import Derived.Shelf.SlGeneric
import Derived.Shelf.SlicesE.DeleteFunc
import Derived.Ground.SlgfProg
import Derived.Test.YtdkbkkpbdmlmbaaGreatProg
import Derived.Test.YtdkbkkpbdmlmbaaGreatShelf
namespace Go.Proofs.YtdkbkkpbdmlmbaaGreat.G
open Go.Shelf
def delL_ren:Go.Shelf.Ren:=⟨fun|10=>74|6=>64|n=>n,fun|22=>27|23=>3|25=>65|3=>3|4=>4|0=>0|n=>n,fun|n=>n⟩
theorem delL:Go.Proofs.SlLaysH.n10 Tryz.prog delL_ren:={
  mixed:=by kernel_rfl
  f6:=⟨Tryz.f64.name,by decide,Tryz.func64.trans (congrArg some (by kernel_rfl))⟩
  f10:=⟨Tryz.f74.name,by decide,Tryz.func74.trans (congrArg some (by kernel_rfl))⟩
  t0:=Tryz.underlying0
  a0:=Tryz.isAgg0
  z0:=Tryz.sizeOf0
  v0:=Tryz.zeroValue0
  t3:=Tryz.underlying3
  a3:=Tryz.isAgg3
  z3:=Tryz.sizeOf3
  v3:=Tryz.zeroValue3
  t4:=Tryz.underlying4
  a4:=Tryz.isAgg4
  z4:=Tryz.sizeOf4
  v4:=Tryz.zeroValue4
  t22:=Tryz.underlying27
  a22:=Tryz.isAgg27
  z22:=Tryz.sizeOf27
  v22:=Tryz.zeroValue27
  a23:=Tryz.isAgg3
  z23:=Tryz.sizeOf3
  t25:=Tryz.underlying65
  a25:=Tryz.isAgg65
  z25:=Tryz.sizeOf65
  v25:=Tryz.zeroValue65}
open Go.RowKit Go.Sort Go.Proofs.YtdkbkkpbdmlmbaaGreatW.PrintWords Go.Proofs.YtdkbkkpbdmlmbaaGreatW.PrintLast
set_option maxRecDepth 100000 in
theorem indexFunc_nil (c:Nat) (f:Value) (w:World):Calls Tryz.prog 64 #[.slice none 0 c,f] w fun e w'=>e= .returned (.int .i64 (-1))∧Drawn0 w w':=by
  go_enter Tryz.func64,Tryz.ntmps64
  go_wp2
  go_loopw [8] (fun v8 w'=>v8= .int .i64 0∧Drawn0 w w') (fun _ _=>0)
  case atStart=>exact⟨rfl,Drawn0.refl _⟩
  case round=>
    obtain⟨rfl,⟨m,rfl⟩⟩:=hrel
    go_wp2
    go_ret
    exact⟨rfl,by repeat(first|exact Drawn0.refl _|apply Drawn0.step)⟩
set_option maxHeartbeats 1000000 in
set_option maxRecDepth 100000 in
theorem delete_nil (c:Nat) (f:Value) (w:World):Calls Tryz.prog 74 #[.slice none 0 c,f] w fun e w'=>e= .returned (.slice none 0 c)∧Drawn0 w w':=by
  go_enter Tryz.func74,Tryz.ntmps74
  go_wp2_with (go_at_call 64;refine(indexFunc_nil c f _).mono ?_;rintro e w' ⟨rfl,⟨nd,rfl⟩⟩)
  go_ret
  exact⟨rfl,by repeat(first|exact Drawn0.refl _|apply Drawn0.step)⟩
theorem delete_calls (q:Int→Bool) (g:Nat) (cb:Array Value) (eg:∀args w,(callFunc g args).run Tryz.prog w= .ok (.enter g args) w) (v:Value) (xs:List Int) (w:World) (h:Sep.rowI 3 w v xs)
    (hq:∀(x:Int) (w':World),(∀k,k<w.heap.size→v.ownBlock≠some k→w'.heap[k]? =w.heap[k]?)→Calls Tryz.prog g (#[.int .i64 x]++cb) w' fun e w''=>e= .returned (.bool (q x))∧Drawn0 w' w''):
    Calls Tryz.prog 74 #[v,.func (.func g) #[] cb] w fun e w'=>∃v',e= .returned v'∧Sep.rowI 3 w' v' (xs.filter fun x=> !q x)∧v'.ownBlock=v.ownBlock∧w.grownBy w' v.ownBlock:=by
  have ho:=Kd.own_of_R h
  rcases ho.2 with⟨rfl,hn⟩|⟨b,cap,cur,rfl,hg,hb,h1,h2,h3,h4⟩
  · obtain rfl:xs=[]:=List.eq_nil_of_length_eq_zero hn
    refine(delete_nil 0 _ w).mono ?_
    rintro e w' ⟨rfl,⟨nd,rfl⟩⟩
    exact⟨_,rfl,by simpa using h.below (pw_below_drewN (Below.refl _ _) nd),rfl,⟨rfl,rfl,rfl,Nat.le_refl _,fun k _ _=>rfl⟩⟩
  · have hH:=holds_of_blockI (w:=w) (g:=b) (ss:=xs) hb (by rw[Nat.mul_one] at h4;exact h4)
    have hm:xs.length≤9223372036854775807:=by unfold maxLen at h2;omega
    have hp:PredAt Tryz.prog g cb (Value.int .i64) q w:=fun W x hB=>(hq x W (fun k hk _=>hB.block k hk)).mono (fun e w' ⟨e1,nd,e2⟩=>⟨e1,nd,e2⟩)
    have hpo:PredOver Tryz.prog g cb (Value.int .i64) q b 0 xs.toArray.size w:=fun n os dk x hd=>by
      refine(hq x _ (fun k hk hne=> ?_)).mono (fun e w' ⟨e1,nd,e2⟩=>⟨e1,nd,e2⟩)
      exact(grownBy_sortedI (w:=w) (g:=b) (n:=n) (os:=os) dk).block k hk (fun e=>hne e.symm)
    refine(AnyE.slices_DeleteFunc delL (Value.int .i64) (fun _=>rfl) q g cb eg 0 Tryz.zeroValue3 b 0 cap xs.toArray w hp hpo hH (by simpa using hm) (by simpa using h1)).mono ?_
    rintro e w' ⟨rfl,n,rfl⟩
    simp only[List.size_toArray]
    have hle:(xs.filter fun x=> !q x).length≤xs.length:=List.length_filter_le _ _
    generalize hz:(xs.filter fun x=> !q x)++List.replicate (xs.length - (xs.filter fun x=> !q x).length) 0=zs
    have hzl:zs.length=xs.length:=by rw[←hz,List.length_append,List.length_replicate];omega
    have hgr:=grownBy_sortedI (w:=w) (g:=b) (n:=n) (os:= #[]) zs.toArray
    have hbl:=heap_sortedI (n:=n) (os:= #[]) zs.toArray hb
    rw[grow_none] at hgr hbl
    refine⟨_,rfl,Kd.R_of_own ?_ (fun _ hk=>hk),rfl,hgr⟩
    refine⟨by simp[encs],.inr ⟨b,cap,_,rfl,Nat.zero_le b,hbl,by omega,h2,by simp[putCells,h3],?_⟩⟩
    have:=take_putCellsI cur zs (by omega)
    rw[Nat.mul_one]
    have e1:(putCells (Value.int .i64) 0 zs.toArray cur).toList.take (xs.filter fun x=> !q x).length=(((putCells (Value.int .i64) 0 zs.toArray cur).toList.take zs.length).take (xs.filter fun x=> !q x).length):=by
      rw[List.take_take,Nat.min_eq_left (by omega)]
    rw[e1,this,←hz,List.map_append,List.take_append_of_le_length (by rw[List.length_map];exact Nat.le_refl _),List.take_of_length_le (by rw[List.length_map];exact Nat.le_refl _)]
    rfl
end Go.Proofs.YtdkbkkpbdmlmbaaGreat.G
