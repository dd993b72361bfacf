/- strings.Join at rows of known texts, and slices.Sorted of a map's keys: calls that are known. -/
import Derived.Test.YtgadijnefbmgkaaGreatDoorJt12
import Derived.Test.YtgadijnefbmgkaaGreatDoorEvF
namespace Go.Proofs.YtgadijnefbmgkaaGreatDoor
set_option maxRecDepth 100000
open Go.Ev Go.RowKit
noncomputable def strsV : List V → Option (List (List UInt8))
  | [] => some []
  | .str s :: l => match strsV l with
    | some r => some (s :: r)
    | none => none
  | _ => none
noncomputable def capOk (n : Nat) : Cap → Bool
  | .known c => Nat.ble n c
  | .atl m _ => Nat.ble n m
noncomputable def joinK (args : List V) (h : H) : Option V :=
  match args with
  | [.slice b o n c, .str sep] => match rGather h b o n with
    | some l => match strsV l with
      | some ss => match Nat.ble 1 n && Nat.ble n 1000 && capOk n c && Nat.ble (joinF sep ss).length 1000000 with
        | true => some (.str (joinF sep ss))
        | false => none
      | none => none
    | none => none
  | _ => none
noncomputable def kJoin : Known := (iJoin, joinK)
theorem strsV_eq : ∀ {l : List V} {ss : List (List UInt8)}, strsV l = some ss → l = ss.map V.str
  | [], ss, h => by cases h; rfl
  | .str s :: l, ss, h => by
    simp only [strsV] at h
    split at h
    · rename_i r hr
      cases h
      rw [strsV_eq hr]; rfl
    · cases h
theorem crel_strs {ρ : Ren} {n : Nat} {pat : List V} {tr : T V} {cs : Array Value} {d o k : Nat} {ss : List (List UInt8)} (hg : gather n pat tr o k = some (ss.map V.str)) (hc : CRel ρ n pat tr cs d) (hs : d + n ≤ cs.size) (j : Nat) (s : List UInt8) (hj : ss[j]? = some s) : cs[d + o + j]? = some (.string ⟨s.toArray⟩) := by
  have h1 := (gather_spec hg).2 j (.str s) (by rw [List.getElem?_map, hj]; rfl)
  have hlt := cell_lt h1
  have h2 : cs[d + (o + j)]? = some (cs[d + (o + j)]'(by omega)) := Array.getElem?_eq_getElem (by omega)
  have h3 := hc.2 _ _ _ h1 h2
  rw [Nat.add_assoc, h2]
  generalize cs[d + (o + j)]'(by omega) = q at h3
  cases h3; rfl
theorem kJoin_ok (hJ : ShelfJoin) : KnownOk Tryz.prog kJoin := by
  intro args h v hv ρ cargs w ha hS m
  simp only [kJoin] at hv
  unfold joinK at hv
  split at hv
  · rename_i b o n c sp
    split at hv
    · rename_i l hl
      split at hv
      · rename_i ss hss
        split at hv
        · rename_i hq
          cases hv
          simp only [Bool.and_eq_true] at hq
          obtain ⟨⟨⟨h1, h2⟩, h3⟩, h4⟩ := hq
          have h1 := Nat.le_of_ble_eq_true h1
          have h2 := Nat.le_of_ble_eq_true h2
          have h4 := Nat.le_of_ble_eq_true h4
          have hls := strsV_eq hss
          subst hls
          obtain ⟨c1, cs1, q1, r1, ha⟩ := ha.uncons
          obtain ⟨c2, cs2, q2, r2, ha⟩ := ha.uncons
          have q3 := ha.of_nil
          have hc : cargs = #[c1, c2] := by rw [← Array.toArray_toList (xs := cargs), q1, q2, q3]
          subst hc
          cases r2
          -- where the row lies
          have row : ∃ B d k, ρ b = some (B, d, k) ∧ B < w.heap.size ∧ ss.length = n ∧ ∀ (j : Nat) s, ss[j]? = some s → w.cell? ⟨B, d + o + j, none⟩ = some (.string ⟨s.toArray⟩) := by
            unfold rGather at hl
            split at hl
            · rename_i e0 n0 pat tr hb
              obtain ⟨L, ob, l1, l2, l3⟩ := hS.live b _ hb
              obtain ⟨cs, el, lo, hi, g1, g2, g3, g4, g5, g6⟩ := l3
              subst g1
              refine ⟨L.1, L.2.1, L.2.2, l1, (Array.getElem?_eq_some_iff.1 l2).1, by have := (gather_spec hl).1; simpa using this, fun j s hj => ?_⟩
              unfold World.cell?
              rw [l2]
              exact crel_strs hl g6 (by omega) j s hj
            · rename_i e0 n0 pat tr hb
              obtain ⟨L, ob, l1, l2, l3⟩ := hS.live b _ hb
              obtain ⟨cs, el, fr, g1, g2, g3, g5, g6⟩ := l3
              subst g1
              refine ⟨L.1, L.2.1, L.2.2, l1, (Array.getElem?_eq_some_iff.1 l2).1, by have := (gather_spec hl).1; simpa using this, fun j s hj => ?_⟩
              unfold World.cell?
              rw [l2]
              exact crel_strs hl g6 (by omega) j s hj
            · cases hl
          obtain ⟨B, d, z, w1, w2, w3, w4⟩ := row
          let bs : List ByteArray := ss.map fun s => ⟨s.toArray⟩
          have hbl : bs.length = n := by simp only [bs, List.length_map, w3]
          have hbm : bs.map (·.data.toList) = ss := by simp [bs, List.map_map, Function.comp_def]
          have e0 : ∀ c : List UInt8, (⟨c.toArray⟩ : ByteArray).data.toList = c := fun c => by simp
          have ht : joinF sp ss = Lib.join ss sp := joinF_join sp _
          have hcells : ∀ (j : Nat) x, bs[j]? = some x → w.cell? ⟨B, d + o + j, none⟩ = some (.string x) := fun j x hx => by
            simp only [bs, List.getElem?_map, Option.map_eq_some_iff] at hx
            obtain ⟨s, hs, rfl⟩ := hx
            exact w4 j s hs
          have fin : ∀ cap : Nat, n ≤ cap → CallsIn Fence.wide m Tryz.prog iJoin #[.slice (some ⟨B, d + o, none⟩) n cap, .string ⟨sp.toArray⟩] w fun e w' => ∃ c, e = .returned c ∧ Below w.heap.size w w' ∧ Rel ρ (.str (joinF sp ss)) c := fun cap hcap => by
            have key := hJ B (d + o) cap bs ⟨sp.toArray⟩ w hcells w2 (by omega) (by omega) (by rw [hbm, e0, ← ht]; omega)
            rw [hbm, e0, ← ht, hbl] at key
            exact (callsIn_wide.2 key).mono fun en w' ⟨h1, h2⟩ => ⟨_, h1, h2, .str _⟩
          cases r1 with
          | sliceK a =>
            rw [w1] at a; cases a
            exact fin _ (Nat.le_of_ble_eq_true h3)
          | sliceA a hm hz =>
            rw [w1] at a; cases a
            have := Nat.le_of_ble_eq_true h3
            exact fin _ (by omega)
          | sliceZ a => omega
        · cases hv
      · cases hv
    · cases hv
  · cases hv
end Go.Proofs.YtgadijnefbmgkaaGreatDoor
