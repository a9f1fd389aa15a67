/- slices.Sort and slices.Compact at whole numbers: the library's contracts laid at this program, and what they make of a row of the call's own. No condition. -/
import Derived.Shelf.SlGeneric
import Derived.Shelf.SortM.Plain
import Derived.Shelf.SortM.SortNone
import Derived.Shelf.SlicesG.CompactI
import Derived.Ground.SlgmProg
import Derived.Ground.SlgnProg
import Derived.Test.YtdkbkkpbdmlmbaaGreatProg
import Derived.Sort.OwnSortedInts
import Derived.Test.YtdkbkkpbdmlmbaaGreatSep
namespace Go.Proofs.YtdkbkkpbdmlmbaaGreat.G
open Go.Shelf
def sortL_ren:Go.Shelf.Ren:=⟨fun|5=>110|8=>114|7=>113|19=>124|20=>125|10=>115|11=>116|12=>117|13=>118|14=>119|15=>120|16=>121|17=>122|18=>123|30=>126|31=>127|32=>128|33=>129|34=>130|35=>131|40=>132|n=>n,fun|23=>27|25=>3|3=>3|32=>106|22=>27|0=>0|44=>145|46=>147|4=>4|36=>137|35=>136|41=>142|5=>5|9=>9|53=>148|57=>152|63=>154|64=>155|n=>n,fun|n=>n⟩
theorem sortL:Go.Proofs.SlLaysM.n5 Tryz.prog sortL_ren:={
  mixed:=by kernel_rfl
  f5:=⟨Tryz.f110.name,by decide,Tryz.func110.trans (congrArg some (by kernel_rfl))⟩
  f7:=⟨Tryz.f113.name,by decide,Tryz.func113.trans (congrArg some (by kernel_rfl))⟩
  f8:=Tryz.func114.trans (congrArg some (by kernel_rfl))
  f10:=⟨Tryz.f115.name,by decide,Tryz.func115.trans (congrArg some (by kernel_rfl))⟩
  f11:=⟨Tryz.f116.name,by decide,Tryz.func116.trans (congrArg some (by kernel_rfl))⟩
  f12:=⟨Tryz.f117.name,by decide,Tryz.func117.trans (congrArg some (by kernel_rfl))⟩
  f13:=⟨Tryz.f118.name,by decide,Tryz.func118.trans (congrArg some (by kernel_rfl))⟩
  f14:=⟨Tryz.f119.name,by decide,Tryz.func119.trans (congrArg some (by kernel_rfl))⟩
  f15:=⟨Tryz.f120.name,by decide,Tryz.func120.trans (congrArg some (by kernel_rfl))⟩
  f16:=⟨Tryz.f121.name,by decide,Tryz.func121.trans (congrArg some (by kernel_rfl))⟩
  f17:=⟨Tryz.f122.name,by decide,Tryz.func122.trans (congrArg some (by kernel_rfl))⟩
  f18:=⟨Tryz.f123.name,by decide,Tryz.func123.trans (congrArg some (by kernel_rfl))⟩
  f19:=Tryz.func124.trans (congrArg some (by kernel_rfl))
  f20:=Tryz.func125.trans (congrArg some (by kernel_rfl))
  f30:=⟨Tryz.f126.name,by decide,Tryz.func126.trans (congrArg some (by kernel_rfl))⟩
  f31:=Tryz.func127.trans (congrArg some (by kernel_rfl))
  f32:=Tryz.func128.trans (congrArg some (by kernel_rfl))
  f33:=⟨Tryz.f129.name,by decide,Tryz.func129.trans (congrArg some (by kernel_rfl))⟩
  f34:=⟨Tryz.f130.name,by decide,Tryz.func130.trans (congrArg some (by kernel_rfl))⟩
  f35:=⟨Tryz.f131.name,by decide,Tryz.func131.trans (congrArg some (by kernel_rfl))⟩
  f40:=⟨Tryz.f132.name,by decide,Tryz.func132.trans (congrArg some (by kernel_rfl))⟩
  t0:=Tryz.underlying0
  a0:=Tryz.isAgg0
  z0:=Tryz.sizeOf0
  v0:=Tryz.zeroValue0
  t3:=Tryz.underlying3
  a3:=Tryz.isAgg3
  z3:=Tryz.sizeOf3
  v3:=Tryz.zeroValue3
  t4:=Tryz.underlying4
  a4:=Tryz.isAgg4
  z4:=Tryz.sizeOf4
  v4:=Tryz.zeroValue4
  t5:=Tryz.underlying5
  a5:=Tryz.isAgg5
  z5:=Tryz.sizeOf5
  v5:=Tryz.zeroValue5
  t9:=Tryz.underlying9
  a9:=Tryz.isAgg9
  z9:=Tryz.sizeOf9
  v9:=Tryz.zeroValue9
  t22:=Tryz.underlying27
  a22:=Tryz.isAgg27
  z22:=Tryz.sizeOf27
  v22:=Tryz.zeroValue27
  t23:=Tryz.underlying27
  a23:=Tryz.isAgg27
  z23:=Tryz.sizeOf27
  v23:=Tryz.zeroValue27
  t25:=Tryz.underlying3
  a25:=Tryz.isAgg3
  z25:=Tryz.sizeOf3
  v25:=Tryz.zeroValue3
  t32:=Tryz.underlying106
  a32:=Tryz.isAgg106
  z32:=Tryz.sizeOf106
  v32:=Tryz.zeroValue106
  t35:=Tryz.underlying136
  a35:=Tryz.isAgg136
  z35:=Tryz.sizeOf136
  v35:=Tryz.zeroValue136
  t36:=Tryz.underlying137
  a36:=Tryz.isAgg137
  z36:=Tryz.sizeOf137
  v36:=Tryz.zeroValue137
  t41:=Tryz.underlying142
  a41:=Tryz.isAgg142
  z41:=Tryz.sizeOf142
  v41:=Tryz.zeroValue142
  t44:=Tryz.underlying145
  a44:=Tryz.isAgg145
  z44:=Tryz.sizeOf145
  v44:=Tryz.zeroValue145
  t46:=Tryz.underlying147
  a46:=Tryz.isAgg147
  z46:=Tryz.sizeOf147
  v46:=Tryz.zeroValue147
  t53:=Tryz.underlying148
  a53:=Tryz.isAgg148
  z53:=Tryz.sizeOf148
  v53:=Tryz.zeroValue148
  t57:=Tryz.underlying152
  a57:=Tryz.isAgg152
  z57:=Tryz.sizeOf152
  v57:=Tryz.zeroValue152
  t63:=Tryz.underlying154
  a63:=Tryz.isAgg154
  z63:=Tryz.sizeOf154
  v63:=Tryz.zeroValue154
  t64:=Tryz.underlying155
  a64:=Tryz.isAgg155
  z64:=Tryz.sizeOf155
  v64:=Tryz.zeroValue155}
def compL_ren:Go.Shelf.Ren:=⟨fun|43=>111|n=>n,fun|22=>27|23=>3|3=>3|4=>4|0=>0|n=>n,fun|n=>n⟩
theorem compL:Go.Proofs.SlLaysN.n43 Tryz.prog compL_ren:={
  mixed:=by kernel_rfl
  f43:=⟨Tryz.f111.name,by decide,Tryz.func111.trans (congrArg some (by kernel_rfl))⟩
  t0:=Tryz.underlying0
  a0:=Tryz.isAgg0
  z0:=Tryz.sizeOf0
  v0:=Tryz.zeroValue0
  t3:=Tryz.underlying3
  a3:=Tryz.isAgg3
  z3:=Tryz.sizeOf3
  v3:=Tryz.zeroValue3
  t4:=Tryz.underlying4
  a4:=Tryz.isAgg4
  z4:=Tryz.sizeOf4
  v4:=Tryz.zeroValue4
  t22:=Tryz.underlying27
  a22:=Tryz.isAgg27
  z22:=Tryz.sizeOf27
  v22:=Tryz.zeroValue27
  t23:=Tryz.underlying3
  a23:=Tryz.isAgg3
  z23:=Tryz.sizeOf3
  v23:=Tryz.zeroValue3
  i23:=by kernel_rfl}
open Go.RowKit Go.Sort Go.Proofs.YtdkbkkpbdmlmbaaGreatW.PrintWords Go.Proofs.YtdkbkkpbdmlmbaaGreatW.PrintLast
theorem sort_calls (v:Value) (xs:List Int) (w:World) (h:Sep.rowI 3 w v xs) (hl:xs.length<4611686018427387904):
    Calls Tryz.prog 110 #[v] w fun e w'=>e= .returned (.tuple #[])∧Sep.rowI 3 w' v (xs.mergeSort fun x y=>decide (x≤y))∧w.grownBy w' v.ownBlock:=by
  have ho:=Kd.own_of_R h
  rcases ho.2 with⟨rfl,hn⟩|⟨g,cap,cur,rfl,hg,hb,h1,h2,h3,h4⟩
  · obtain rfl:xs=[]:=List.eq_nil_of_length_eq_zero hn
    refine(AnyM.slices_Sort_int_none sortL none 0 w).mono ?_
    rintro e w' ⟨rfl,rfl⟩
    exact⟨rfl,by simpa using h,World.grownBy.refl _ _⟩
  · have hH:=holds_of_blockI (w:=w) (g:=g) (ss:=xs) hb (by rw[Nat.mul_one] at h4;exact h4)
    have hblk:g<w.heap.size:=(Array.getElem?_eq_some_iff.1 hb).1
    refine(AnyM.slices_Sort_int sortL g 0 cap xs w hH hblk hl).mono ?_
    rintro e w' ⟨rfl,n,os,rfl⟩
    have hlen:(xs.mergeSort fun x y=>decide (x≤y)).length=xs.length:=List.length_mergeSort xs
    refine⟨rfl,Kd.R_of_own ?_ (fun _ hk=>hk),grownBy_sortedI _⟩
    have:=ownsRow_sortedI (os:=os) (n:=n) hlen (Nat.zero_le g) hb h1 h2 h3
    rw[hlen]
    exact this
theorem grow_none (w:World):grow w #[]=w:=by simp[grow]
theorem compact_calls (v:Value) (xs:List Int) (w:World) (h:Sep.rowI 3 w v xs):
    Calls Tryz.prog 111 #[v] w fun e w'=>∃v',e= .returned v'∧Sep.rowI 3 w' v' (Go.Lib.compact xs)∧v'.ownBlock=v.ownBlock∧w.grownBy w' v.ownBlock:=by
  have ho:=Kd.own_of_R h
  rcases ho.2 with⟨rfl,hn⟩|⟨g,cap,cur,rfl,hg,hb,h1,h2,h3,h4⟩
  · obtain rfl:xs=[]:=List.eq_nil_of_length_eq_zero hn
    refine(AnyG.slices_Compact_int_empty compL none 0 w).mono ?_
    rintro e w' ⟨rfl,rfl⟩
    exact⟨_,rfl,by simpa [Go.Lib.compact,Go.Lib.compactUpTo] using h,rfl,World.grownBy.refl _ _⟩
  · have hH:=holds_of_blockI (w:=w) (g:=g) (ss:=xs) hb (by rw[Nat.mul_one] at h4;exact h4)
    have hm:xs.length≤9223372036854775807:=by unfold maxLen at h2;omega
    refine(AnyG.slices_Compact_int compL g 0 cap xs w hH hm h1).mono ?_
    rintro e w' ⟨rfl,q,rfl⟩
    have hle:(Go.Lib.compact xs).length≤xs.length:=by
      unfold Go.Lib.compact Go.Lib.compactUpTo
      rw[List.length_map]
      exact Nat.le_trans (List.length_filter_le _ _) (by simp)
    generalize hz:Go.Lib.compact xs++List.replicate (xs.length - (Go.Lib.compact xs).length) 0=zs
    have hzl:zs.length=xs.length:=by rw[←hz,List.length_append,List.length_replicate];omega
    have hgr:=grownBy_sortedI (w:=w) (g:=g) (n:=q) (os:= #[]) zs.toArray
    have hbl:=heap_sortedI (n:=q) (os:= #[]) zs.toArray hb
    rw[grow_none] at hgr hbl
    refine⟨_,rfl,Kd.R_of_own ?_ (fun _ hk=>hk),rfl,hgr⟩
    refine⟨by simp[encs],.inr ⟨g,cap,_,rfl,Nat.zero_le g,hbl,by omega,h2,by simp[putCells,h3],?_⟩⟩
    have:=take_putCellsI cur zs (by omega)
    rw[Nat.mul_one]
    have e1:(putCells (Value.int .i64) 0 zs.toArray cur).toList.take (Go.Lib.compact xs).length=(((putCells (Value.int .i64) 0 zs.toArray cur).toList.take zs.length).take (Go.Lib.compact xs).length):=by
      rw[List.take_take,Nat.min_eq_left (by omega)]
    rw[e1,this,←hz,List.map_append,List.take_append_of_le_length (by rw[List.length_map];exact Nat.le_refl _),List.take_of_length_le (by rw[List.length_map];exact Nat.le_refl _)]
    rfl
theorem below_grown {w w1 w2:World} {row:Option Nat} (h:Below w.heap.size w w1) (hg:w1.grownBy w2 row) (hr:∀k,row=some k→w.heap.size≤k):Below w.heap.size w w2:=
  ⟨hg.os.trans h.os,hg.tape.trans h.tape,hg.output.trans h.output,Nat.le_trans h.size hg.size,fun k hk=>(hg.block k (Nat.lt_of_lt_of_le hk h.size) (fun e=>by have:=hr k e.symm;omega)).trans (h.block k hk)⟩
def setOf (l:List Int):List Int:=Go.Lib.compact (l.mergeSort fun x y=>decide (x≤y))
end Go.Proofs.YtdkbkkpbdmlmbaaGreat.G
