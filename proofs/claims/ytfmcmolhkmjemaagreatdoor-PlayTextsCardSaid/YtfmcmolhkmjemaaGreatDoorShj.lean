/- strconv.Itoa at numbers from 0 on: what the library's contract says at this program. -/
import Derived.Test.YtfmcmolhkmjemaaGreatDoorShf
import Derived.Test.YtfmcmolhkmjemaaGreatDoorIt
namespace Go.Proofs.YtfmcmolhkmjemaaGreatDoor
set_option maxRecDepth 100000
open Go.Ev Go.RowKit Go.Sort Go.Shelf
theorem tab_is {w : World} (hV : VarsOk gsP w) : Lib.TabIs Tryz.prog w "internal/strconv.uint64pow10" .u64 Lib.pow10Tab := by
  obtain ⟨_, cs, el, fr, hw, hs, hc⟩ := hV gPow pow10 (by simp only [gsP, List.mem_cons, List.not_mem_nil, or_false])
  unfold Lib.TabIs World.var?
  rw [show Tryz.prog.globalNamed "internal/strconv.uint64pow10" = some gPow by kernel_rfl]
  simp only [Option.bind_some, hw, Option.some.injEq]
  have hl : cs.size = Lib.pow10Tab.length := by rw [hs]; simp only [pow10, List.length_map]
  have ht : cs.toList = Lib.pow10Tab.map fun z => Value.int .u64 z := List.ext_getElem? fun i => by
    rw [Array.getElem?_toList, List.getElem?_map]
    by_cases hi : i < Lib.pow10Tab.length
    · have hp : pow10[i]? = some (.int .u64 Lib.pow10Tab[i]) := by
        simp only [pow10, List.getElem?_map, List.getElem?_eq_getElem hi, Option.map_some]
      obtain ⟨x, h1, _, h2⟩ := hc i _ hp
      have h3 := h2 (fun _ => .none)
      cases h3
      rw [h1, List.getElem?_eq_getElem hi]
      rfl
    · rw [Array.getElem?_eq_none (by omega), List.getElem?_eq_none (by omega)]
      rfl
  rw [← ht]
theorem shelfItoa : ShelfItoa := fun n w h0 h1 hV =>
  (Any.strconv_Itoa Tryz.litoa n (by omega) (by omega) w (tab_is hV)).mono fun e w' ⟨e1, k, os, hw⟩ => ⟨e1, by
    subst hw
    exact ⟨rfl, rfl, rfl, by simp only [grow, World.drewN, Array.size_append]; omega, fun i hi => by simp only [grow, World.drewN]; exact Array.getElem?_append_left hi⟩⟩
end Go.Proofs.YtfmcmolhkmjemaaGreatDoor
