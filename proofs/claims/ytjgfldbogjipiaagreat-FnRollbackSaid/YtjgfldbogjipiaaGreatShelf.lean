/- slices.Sort and slices.Compact at whole numbers: the library's contracts laid at this program, and what they make of a row of the call's own. No condition. -/
import Derived.Shelf.SlGeneric
import Derived.Shelf.SortM.Plain
import Derived.Shelf.SortM.SortNone
import Derived.Shelf.SlicesG.CompactI
import Derived.Ground.SlgmProg
import Derived.Ground.SlgnProg
import Derived.Test.YtjgfldbogjipiaaGreatProg
import Derived.Sort.OwnSortedInts
import Derived.Test.YtjgfldbogjipiaaGreatSep
namespace Go.Proofs.YtjgfldbogjipiaaGreat.G
open Go.Shelf
def sortL_ren:Go.Shelf.Ren:=⟨fun|5=>110|8=>127|7=>126|19=>144|20=>145|10=>135|11=>136|12=>137|13=>138|14=>139|15=>140|16=>141|17=>142|18=>143|30=>147|31=>148|32=>149|33=>150|34=>151|35=>152|40=>154|n=>n,fun|23=>27|25=>3|3=>3|32=>121|22=>27|0=>0|44=>146|46=>148|4=>4|36=>138|35=>137|41=>143|5=>5|9=>9|53=>149|57=>153|63=>155|64=>156|n=>n,fun|n=>n⟩
theorem sortL:Go.Proofs.SlLaysM.n5 Tryz.prog sortL_ren:={
  mixed:=by kernel_rfl
  f5:=⟨Tryz.f110.name,by decide,Tryz.func110.trans (congrArg some (by kernel_rfl))⟩
  f7:=⟨Tryz.f126.name,by decide,Tryz.func126.trans (congrArg some (by kernel_rfl))⟩
  f8:=Tryz.func127.trans (congrArg some (by kernel_rfl))
  f10:=⟨Tryz.f135.name,by decide,Tryz.func135.trans (congrArg some (by kernel_rfl))⟩
  f11:=⟨Tryz.f136.name,by decide,Tryz.func136.trans (congrArg some (by kernel_rfl))⟩
  f12:=⟨Tryz.f137.name,by decide,Tryz.func137.trans (congrArg some (by kernel_rfl))⟩
  f13:=⟨Tryz.f138.name,by decide,Tryz.func138.trans (congrArg some (by kernel_rfl))⟩
  f14:=⟨Tryz.f139.name,by decide,Tryz.func139.trans (congrArg some (by kernel_rfl))⟩
  f15:=⟨Tryz.f140.name,by decide,Tryz.func140.trans (congrArg some (by kernel_rfl))⟩
  f16:=⟨Tryz.f141.name,by decide,Tryz.func141.trans (congrArg some (by kernel_rfl))⟩
  f17:=⟨Tryz.f142.name,by decide,Tryz.func142.trans (congrArg some (by kernel_rfl))⟩
  f18:=⟨Tryz.f143.name,by decide,Tryz.func143.trans (congrArg some (by kernel_rfl))⟩
  f19:=Tryz.func144.trans (congrArg some (by kernel_rfl))
  f20:=Tryz.func145.trans (congrArg some (by kernel_rfl))
  f30:=⟨Tryz.f147.name,by decide,Tryz.func147.trans (congrArg some (by kernel_rfl))⟩
  f31:=Tryz.func148.trans (congrArg some (by kernel_rfl))
  f32:=Tryz.func149.trans (congrArg some (by kernel_rfl))
  f33:=⟨Tryz.f150.name,by decide,Tryz.func150.trans (congrArg some (by kernel_rfl))⟩
  f34:=⟨Tryz.f151.name,by decide,Tryz.func151.trans (congrArg some (by kernel_rfl))⟩
  f35:=⟨Tryz.f152.name,by decide,Tryz.func152.trans (congrArg some (by kernel_rfl))⟩
  f40:=⟨Tryz.f154.name,by decide,Tryz.func154.trans (congrArg some (by kernel_rfl))⟩
  t0:=Tryz.underlying0
  a0:=Tryz.isAgg0
  z0:=Tryz.sizeOf0
  v0:=Tryz.zeroValue0
  t3:=Tryz.underlying3
  a3:=Tryz.isAgg3
  z3:=Tryz.sizeOf3
  v3:=Tryz.zeroValue3
  t4:=Tryz.underlying4
  a4:=Tryz.isAgg4
  z4:=Tryz.sizeOf4
  v4:=Tryz.zeroValue4
  t5:=Tryz.underlying5
  a5:=Tryz.isAgg5
  z5:=Tryz.sizeOf5
  v5:=Tryz.zeroValue5
  t9:=Tryz.underlying9
  a9:=Tryz.isAgg9
  z9:=Tryz.sizeOf9
  v9:=Tryz.zeroValue9
  t22:=Tryz.underlying27
  a22:=Tryz.isAgg27
  z22:=Tryz.sizeOf27
  v22:=Tryz.zeroValue27
  t23:=Tryz.underlying27
  a23:=Tryz.isAgg27
  z23:=Tryz.sizeOf27
  v23:=Tryz.zeroValue27
  t25:=Tryz.underlying3
  a25:=Tryz.isAgg3
  z25:=Tryz.sizeOf3
  v25:=Tryz.zeroValue3
  t32:=Tryz.underlying121
  a32:=Tryz.isAgg121
  z32:=Tryz.sizeOf121
  v32:=Tryz.zeroValue121
  t35:=Tryz.underlying137
  a35:=Tryz.isAgg137
  z35:=Tryz.sizeOf137
  v35:=Tryz.zeroValue137
  t36:=Tryz.underlying138
  a36:=Tryz.isAgg138
  z36:=Tryz.sizeOf138
  v36:=Tryz.zeroValue138
  t41:=Tryz.underlying143
  a41:=Tryz.isAgg143
  z41:=Tryz.sizeOf143
  v41:=Tryz.zeroValue143
  t44:=Tryz.underlying146
  a44:=Tryz.isAgg146
  z44:=Tryz.sizeOf146
  v44:=Tryz.zeroValue146
  t46:=Tryz.underlying148
  a46:=Tryz.isAgg148
  z46:=Tryz.sizeOf148
  v46:=Tryz.zeroValue148
  t53:=Tryz.underlying149
  a53:=Tryz.isAgg149
  z53:=Tryz.sizeOf149
  v53:=Tryz.zeroValue149
  t57:=Tryz.underlying153
  a57:=Tryz.isAgg153
  z57:=Tryz.sizeOf153
  v57:=Tryz.zeroValue153
  t63:=Tryz.underlying155
  a63:=Tryz.isAgg155
  z63:=Tryz.sizeOf155
  v63:=Tryz.zeroValue155
  t64:=Tryz.underlying156
  a64:=Tryz.isAgg156
  z64:=Tryz.sizeOf156
  v64:=Tryz.zeroValue156}
def compL_ren:Go.Shelf.Ren:=⟨fun|43=>111|n=>n,fun|22=>27|23=>3|3=>3|4=>4|0=>0|n=>n,fun|n=>n⟩
theorem compL:Go.Proofs.SlLaysN.n43 Tryz.prog compL_ren:={
  mixed:=by kernel_rfl
  f43:=⟨Tryz.f111.name,by decide,Tryz.func111.trans (congrArg some (by kernel_rfl))⟩
  t0:=Tryz.underlying0
  a0:=Tryz.isAgg0
  z0:=Tryz.sizeOf0
  v0:=Tryz.zeroValue0
  t3:=Tryz.underlying3
  a3:=Tryz.isAgg3
  z3:=Tryz.sizeOf3
  v3:=Tryz.zeroValue3
  t4:=Tryz.underlying4
  a4:=Tryz.isAgg4
  z4:=Tryz.sizeOf4
  v4:=Tryz.zeroValue4
  t22:=Tryz.underlying27
  a22:=Tryz.isAgg27
  z22:=Tryz.sizeOf27
  v22:=Tryz.zeroValue27
  t23:=Tryz.underlying3
  a23:=Tryz.isAgg3
  z23:=Tryz.sizeOf3
  v23:=Tryz.zeroValue3
  i23:=by kernel_rfl}
open Go.RowKit Go.Sort Go.Proofs.YtjgfldbogjipiaaGreatW.PrintWords Go.Proofs.YtjgfldbogjipiaaGreatW.PrintLast
theorem sort_calls (v:Value) (xs:List Int) (w:World) (h:Sep.rowI 3 w v xs) (hl:xs.length<4611686018427387904):
    Calls Tryz.prog 110 #[v] w fun e w'=>e= .returned (.tuple #[])∧Sep.rowI 3 w' v (xs.mergeSort fun x y=>decide (x≤y))∧w.grownBy w' v.ownBlock:=by
  have ho:=Kd.own_of_R h
  rcases ho.2 with⟨rfl,hn⟩|⟨g,cap,cur,rfl,hg,hb,h1,h2,h3,h4⟩
  · obtain rfl:xs=[]:=List.eq_nil_of_length_eq_zero hn
    refine(AnyM.slices_Sort_int_none sortL none 0 w).mono ?_
    rintro e w' ⟨rfl,rfl⟩
    exact⟨rfl,by simpa using h,World.grownBy.refl _ _⟩
  · have hH:=holds_of_blockI (w:=w) (g:=g) (ss:=xs) hb (by rw[Nat.mul_one] at h4;exact h4)
    have hblk:g<w.heap.size:=(Array.getElem?_eq_some_iff.1 hb).1
    refine(AnyM.slices_Sort_int sortL g 0 cap xs w hH hblk hl).mono ?_
    rintro e w' ⟨rfl,n,os,rfl⟩
    have hlen:(xs.mergeSort fun x y=>decide (x≤y)).length=xs.length:=List.length_mergeSort xs
    refine⟨rfl,Kd.R_of_own ?_ (fun _ hk=>hk),grownBy_sortedI _⟩
    have:=ownsRow_sortedI (os:=os) (n:=n) hlen (Nat.zero_le g) hb h1 h2 h3
    rw[hlen]
    exact this
theorem grow_none (w:World):grow w #[]=w:=by simp[grow]
theorem compact_calls (v:Value) (xs:List Int) (w:World) (h:Sep.rowI 3 w v xs):
    Calls Tryz.prog 111 #[v] w fun e w'=>∃v',e= .returned v'∧Sep.rowI 3 w' v' (Go.Lib.compact xs)∧v'.ownBlock=v.ownBlock∧w.grownBy w' v.ownBlock:=by
  have ho:=Kd.own_of_R h
  rcases ho.2 with⟨rfl,hn⟩|⟨g,cap,cur,rfl,hg,hb,h1,h2,h3,h4⟩
  · obtain rfl:xs=[]:=List.eq_nil_of_length_eq_zero hn
    refine(AnyG.slices_Compact_int_empty compL none 0 w).mono ?_
    rintro e w' ⟨rfl,rfl⟩
    exact⟨_,rfl,by simpa [Go.Lib.compact,Go.Lib.compactUpTo] using h,rfl,World.grownBy.refl _ _⟩
  · have hH:=holds_of_blockI (w:=w) (g:=g) (ss:=xs) hb (by rw[Nat.mul_one] at h4;exact h4)
    have hm:xs.length≤9223372036854775807:=by unfold maxLen at h2;omega
    refine(AnyG.slices_Compact_int compL g 0 cap xs w hH hm h1).mono ?_
    rintro e w' ⟨rfl,q,rfl⟩
    have hle:(Go.Lib.compact xs).length≤xs.length:=by
      unfold Go.Lib.compact Go.Lib.compactUpTo
      rw[List.length_map]
      exact Nat.le_trans (List.length_filter_le _ _) (by simp)
    generalize hz:Go.Lib.compact xs++List.replicate (xs.length - (Go.Lib.compact xs).length) 0=zs
    have hzl:zs.length=xs.length:=by rw[←hz,List.length_append,List.length_replicate];omega
    have hgr:=grownBy_sortedI (w:=w) (g:=g) (n:=q) (os:= #[]) zs.toArray
    have hbl:=heap_sortedI (n:=q) (os:= #[]) zs.toArray hb
    rw[grow_none] at hgr hbl
    refine⟨_,rfl,Kd.R_of_own ?_ (fun _ hk=>hk),rfl,hgr⟩
    refine⟨by simp[encs],.inr ⟨g,cap,_,rfl,Nat.zero_le g,hbl,by omega,h2,by simp[putCells,h3],?_⟩⟩
    have:=take_putCellsI cur zs (by omega)
    rw[Nat.mul_one]
    have e1:(putCells (Value.int .i64) 0 zs.toArray cur).toList.take (Go.Lib.compact xs).length=(((putCells (Value.int .i64) 0 zs.toArray cur).toList.take zs.length).take (Go.Lib.compact xs).length):=by
      rw[List.take_take,Nat.min_eq_left (by omega)]
    rw[e1,this,←hz,List.map_append,List.take_append_of_le_length (by rw[List.length_map];exact Nat.le_refl _),List.take_of_length_le (by rw[List.length_map];exact Nat.le_refl _)]
    rfl
theorem below_grown {w w1 w2:World} {row:Option Nat} (h:Below w.heap.size w w1) (hg:w1.grownBy w2 row) (hr:∀k,row=some k→w.heap.size≤k):Below w.heap.size w w2:=
  ⟨hg.os.trans h.os,hg.tape.trans h.tape,hg.output.trans h.output,Nat.le_trans h.size hg.size,fun k hk=>(hg.block k (Nat.lt_of_lt_of_le hk h.size) (fun e=>by have:=hr k e.symm;omega)).trans (h.block k hk)⟩
def setOf (l:List Int):List Int:=Go.Lib.compact (l.mergeSort fun x y=>decide (x≤y))
end Go.Proofs.YtjgfldbogjipiaaGreat.G
