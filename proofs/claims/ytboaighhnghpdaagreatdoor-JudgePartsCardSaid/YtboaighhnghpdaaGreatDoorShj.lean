/- What the library's contracts say at this program. -/
import Derived.Test.YtboaighhnghpdaaGreatDoorW
import Derived.Test.YtboaighhnghpdaaGreatDoorShf
set_option linter.unusedVariables false
set_option linter.unusedSimpArgs false
set_option maxHeartbeats 1000000
namespace Go.Proofs.YtboaighhnghpdaaGreatDoor
open Go.Ev Go.RowKit Go.Maps Go.Sort Go.Shelf
set_option maxRecDepth 100000
theorem N0 (m:Nat):AnyZI.SortsIn Tryz.prog Tryz.lsorted_ren Fence.wide m:=
 ⟨fun blk off cap ss W hH hblk hsz=>callsIn_wide.2 (AnyM.slices_Sort_int Tryz.lsort blk off cap ss W hH hblk hsz),
  fun p cap W=>callsIn_wide.2 (AnyM.slices_Sort_int_none Tryz.lsort p cap W)⟩
set_option maxHeartbeats 1000000 in
theorem BB:kY Tryz.prog 27 55 3:=by
 intro Bm b nn D0 w hcell hown hsz;have hBm:Bm<w.heap.size:=by
  unfold World.cell? at hcell;split at hcell;·rename_i q;exact(aD.1 q).1
  .cases hcell
 have hm:maxLen=9223372036854775807:=by decide
 have hseq:SeqGives Fence.wide 2 Tryz.prog 55 #[.pointer (some ⟨Bm,0,.none⟩)] encZ (fun ss=>ss.Perm (intKeys D0)) (Maps.size D0) w:=
  AnyZI.keys_gives (ρ:=Tryz.lkeys_ren) { Tryz.lkeys with } Fence.wide _ trivial rfl (by omega) Bm b nn D0 w hBm hcell hown
 have cS:=AnyZI.sorted_in Tryz.lsorted Fence.wide 5 trivial trivial trivial trivial rfl (by omega) (N0 _) (enters_of Tryz.func54 (by kernel_rfl) rfl) 55 #[.pointer (some ⟨Bm,0,.none⟩)] trivial (enters_of Tryz.func55 (by kernel_rfl) rfl) _ _ (by omega) (by omega) _ hseq;exact callsIn_wide.1 cS
theorem N5:Sh where
 j:=fun bk o c xs s w h1 h2 h3 h4 h5=>Any.strings_Join Tryz.ljoin Tryz.lextra bk o c xs s w h1 h2 h3 h4 h5
 s:=BB
 u:=Tryz.underlying3
end Go.Proofs.YtboaighhnghpdaaGreatDoor
