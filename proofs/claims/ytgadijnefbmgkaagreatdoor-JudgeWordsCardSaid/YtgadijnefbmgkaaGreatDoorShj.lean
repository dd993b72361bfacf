/- What the library's contracts say at this program: strings.Join; slices.Sorted of a map's keys. -/
import Derived.Test.YtgadijnefbmgkaaGreatDoorShf
import Derived.Test.YtgadijnefbmgkaaGreatDoorJt13
namespace Go.Proofs.YtgadijnefbmgkaaGreatDoor
set_option maxRecDepth 100000
open Go.Ev Go.RowKit Go.Maps Go.Sort Go.Shelf
theorem shelfJoin : ShelfJoin := fun bk o c xs s w h1 h2 h3 h4 h5 => Any.strings_Join Tryz.ljoin Tryz.lextra bk o c xs s w h1 h2 h3 h4 h5
theorem shelfJoin0 (a : Addr) (w : World) : Calls Tryz.prog iJoin #[.slice (some a) 0 0, .string ⟨sep.toArray⟩] w fun e w' => e = .returned (.string ⟨#[]⟩) ∧ Below w.heap.size w w' :=
  (Any.strings_Join_none Tryz.ljoin Tryz.lextra (some a) 0 ⟨sep.toArray⟩ w).mono fun e w' ⟨h1, h2⟩ => ⟨h1, by rw [h2]; exact Below.refl _ _⟩
theorem joinOk : JoinOk := join_ok shelfJoin shelfJoin0
theorem sortsIn (m : Nat) : AnyZI.SortsIn Tryz.prog Tryz.lsorted_ren Fence.wide m :=
  ⟨fun blk off cap ss W hH hblk hsz => callsIn_wide.2 (AnyM.slices_Sort_int Tryz.lsort blk off cap ss W hH hblk hsz),
   fun p cap W => callsIn_wide.2 (AnyM.slices_Sort_int_none Tryz.lsort p cap W)⟩
set_option maxHeartbeats 1000000 in
theorem shelfSorted : ShelfSorted Tryz.prog iSorted iKeys1 tInt := by
  intro Bm b nn D0 w hcell hown hsz
  have hBm : Bm < w.heap.size := by
    unfold World.cell? at hcell
    split at hcell
    · rename_i q; exact (Array.getElem?_eq_some_iff.1 q).1
    · cases hcell
  have hm : maxLen = 9223372036854775807 := by decide
  have hseq : SeqGives Fence.wide 2 Tryz.prog iKeys1 #[.pointer (some ⟨Bm, 0, .none⟩)] encZ (fun ss => ss.Perm (intKeys D0)) (Maps.size D0) w :=
    AnyZI.keys_gives (ρ := Tryz.lkeys_ren) { Tryz.lkeys with } Fence.wide _ trivial rfl (by omega) Bm b nn D0 w hBm hcell hown
  have cS := AnyZI.sorted_in Tryz.lsorted Fence.wide 5 trivial trivial trivial trivial rfl (by omega) (sortsIn _) (enters_of Tryz.func45 (by kernel_rfl) rfl) iKeys1 #[.pointer (some ⟨Bm, 0, .none⟩)] trivial (enters_of Tryz.func46 (by kernel_rfl) rfl) _ _ (by omega) (by omega) _ hseq
  exact callsIn_wide.1 cS
end Go.Proofs.YtgadijnefbmgkaaGreatDoor
