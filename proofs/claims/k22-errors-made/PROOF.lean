import PyProof.Rows.All
import Wide.All
import OpenK.AllK
import Wide.FinOn
import PyProof.ReprRoads
import HandS.ForMost
import HandS.IsInst
import HandS.TupAny
import HandS.TupSets
import HandS.HeadHook1
import KE.KDictKeyed
import KE.KDictDisplayH
import HandS.Exc
import HandS.TryOnly
import HandS.ExcOwn
import HandS.WordsExc
import HandS.Defaults
import KE.KUnpackStar
import HandS.ExcCtx
import KE.GoesEnum
import KE.KExcInit
import HandS.ExcInit
import HandS.ExcField
import HandS.MakeKw
import HandS.Head0
import HandS.Head1
import HandS.Head2
import HandS.HeadHook4
import HandS.Deep
import HandS.Hot
import HandS.ExcIs
import HandS.SetFor
import HandS.Dict
import HandS.More
import HandS.Zip0
import HandS.Zip
import KE.DataCmp
import KE.SortData
import HandS.TupLen
import HandS.DictComp
import HandS.Style
import PyProof.Rows.SortWalk
import HandS.ExcValue
import PySem.Challenge.RW_callsover_k22_errors_made
set_option Elab.async false
set_option linter.all false
set_option maxRecDepth 100000
set_option maxHeartbeats 4000000
/-! Tables of sets, of masks up to 511: the way of a search meets each slot. -/
namespace SB
open PySem PySem.Spec PyProof.Rows L2
/-- from each slot each slot is met within a round -/
structure Full (m : Nat) : Prop where
  odd : m % 2 = 1
  few : m ≤ 511
  all : ∀ i j, i ≤ m → j ≤ m → ∃ k, k ≤ m ∧ lcgI m i k = j
def orb (m : Nat) : Nat → Nat → List Nat
  | _, 0 => []
  | x, n + 1 => x :: orb m ((x * 5 + 1) % (m + 1)) n
theorem orb_get (m : Nat) : ∀ (n x b : Nat), b < n → (orb m x n)[b]? = some (lcgI m x b)
  | 0, _, _, h => absurd h (Nat.not_lt_zero _)
  | n + 1, x, 0, _ => rfl
  | n + 1, x, b + 1, h => by
    show (orb m ((x * 5 + 1) % (m + 1)) n)[b]? = _
    rw [orb_get m n _ b (by omega)]
    have key : ∀ b, lcgI m ((x * 5 + 1) % (m + 1)) b = lcgI m x (b + 1) := by
      intro b
      induction b with
      | zero => rfl
      | succ b ih =>
        show (lcgI m ((x * 5 + 1) % (m + 1)) b * 5 + 1) % (m + 1) = (lcgI m x (b + 1) * 5 + 1) % (m + 1)
        rw [ih]
    rw [key]
theorem orb_len (m : Nat) : ∀ n x, (orb m x n).length = n
  | 0, _ => rfl
  | n + 1, x => by
    show (orb m _ n).length + 1 = n + 1
    rw [orb_len m n]
def cover (l : List Nat) (n : Nat) : Bool := (List.range n).all fun j => l.contains j
theorem cov511 : cover (orb 511 0 512) 512 = true := by decide +kernel
theorem rnd511 : lcgI 511 0 512 = 0 := by decide +kernel
theorem lcgI_add (m i a : Nat) : ∀ k, lcgI m (lcgI m i a) k = lcgI m i (a + k)
  | 0 => rfl
  | k + 1 => by
    show (lcgI m (lcgI m i a) k * 5 + 1) % (m + 1) = (lcgI m i (a + k) * 5 + 1) % (m + 1)
    rw [lcgI_add m i a k]
theorem full_of {m : Nat} (ho : m % 2 = 1) (hf : m ≤ 511) (hc : cover (orb m 0 (m + 1)) (m + 1) = true) (hr : lcgI m 0 (m + 1) = 0) : Full m := by
  have meet : ∀ j, j ≤ m → ∃ b, b ≤ m ∧ lcgI m 0 b = j := fun j hj => by
    unfold cover at hc
    have h1 := List.all_eq_true.mp hc j (List.mem_range.mpr (Nat.lt_succ_of_le hj))
    have h2 : j ∈ orb m 0 (m + 1) := by simpa using h1
    obtain ⟨b, hb⟩ := List.mem_iff_getElem?.mp h2
    have hl : b < m + 1 := by
      have := (List.getElem?_eq_some_iff.mp hb).1
      rw [orb_len] at this
      exact this
    rw [orb_get m (m + 1) 0 b hl] at hb
    exact ⟨b, by omega, Option.some.inj hb⟩
  have per : ∀ k, lcgI m 0 (m + 1 + k) = lcgI m 0 k := fun k => by
    rw [← lcgI_add, hr]
  refine ⟨ho, hf, fun i j hi hj => ?_⟩
  obtain ⟨a, ha, ea⟩ := meet i hi
  obtain ⟨b, hb, eb⟩ := meet j hj
  rw [← ea]
  by_cases c : b < a
  · refine ⟨b + (m + 1) - a, by omega, ?_⟩
    rw [lcgI_add, show a + (b + (m + 1) - a) = m + 1 + b by omega, per, eb]
  · refine ⟨b - a, by omega, ?_⟩
    rw [lcgI_add, show a + (b - a) = b by omega, eb]
theorem full7 : Full 7 := full_of (by decide) (by decide) (by decide +kernel) (by decide +kernel)
theorem full31 : Full 31 := full_of (by decide) (by decide) (by decide +kernel) (by decide +kernel)
theorem full127 : Full 127 := full_of (by decide) (by decide) (by decide +kernel) (by decide +kernel)
theorem full511 : Full 511 := full_of (by decide) (by decide) cov511 rnd511
/-- each slot begins a run, early enough -/
theorem starts {m : Nat} (F : Full m) (h : Int) {j : Nat} (hj : j ≤ m) : ∃ n, n ≤ m + 12 ∧ runI m (SetTable.bits h) n = j := by
  obtain ⟨k, hk, e⟩ := F.all _ j (runI_le m (SetTable.bits h) 12) hj
  refine ⟨12 + k, by omega, ?_⟩
  rw [runI_tail (bits_lt h)]
  exact e
theorem meets {m : Nat} (F : Full m) (h : Int) {j : Nat} (hj : j ≤ m) : ∃ k, k < 10 * SetTable.turns m ∧ way m h k = j := by
  obtain ⟨n, hn, e⟩ := starts F h hj
  obtain ⟨k, hk, e2⟩ := run_nth m (SetTable.bits h) n
  refine ⟨k, by unfold SetTable.turns; omega, ?_⟩
  show (nth m (runAt m (SetTable.bits h % (m + 1)) (SetTable.bits h)) k).j = j
  rw [e2]
  exact e
theorem way_in {m : Nat} (h : Int) (k : Nat) : way m h k ≤ m := by
  have hb : SetTable.bits h % (m + 1) ≤ m := Nat.le_of_lt_succ (Nat.mod_lt _ (Nat.succ_pos _))
  have q := nth_in (m := m) k (runAt m (SetTable.bits h % (m + 1)) (SetTable.bits h)) (by
    show SetTable.bits h % (m + 1) + (SetTable.runEnd m (SetTable.bits h % (m + 1)) - SetTable.bits h % (m + 1)) ≤ m
    have := runEnd_bd hb
    omega)
  show (nth m (runAt m (SetTable.bits h % (m + 1)) (SetTable.bits h)) k).j ≤ m
  omega
/-- a table whose members are found again -/
structure Tab (t : SetTable) (hs : List Int) : Prop where
  ris : Ris t.place.toList
  dm : t.dummies = #[]
  sz : t.place.size = hs.length
  full : Full t.mask
  bd : ∀ x ∈ t.place.toList, x ≤ t.mask
  reach : ∀ (i : Nat) (h : Int) (j : Nat), hs[i]? = some h → t.place.toList[i]? = some j → ∃ k, way t.mask h k = j ∧ ∀ k', k' < k → way t.mask h k' ∈ t.place.toList
theorem Tab.len {t : SetTable} {hs : List Int} (T : Tab t hs) : t.place.toList.length = hs.length := by rw [Array.length_toList, T.sz]
theorem Tab.free {t : SetTable} {hs : List Int} (T : Tab t hs) (hl : hs.length ≤ t.mask) (h : Int) : ∃ K, K < 10 * SetTable.turns t.mask ∧ way t.mask h K ∉ t.place.toList ∧ ∀ k, k < K → way t.mask h k ∈ t.place.toList := by
  obtain ⟨j, hj, hn⟩ := st_missing t.place.toList (t.mask + 1) (by rw [T.len]; omega)
  obtain ⟨k, hk, e⟩ := meets T.full h (Nat.le_of_lt_succ hj)
  obtain ⟨K, h1, h2, h3⟩ := st_least (p := fun k => way t.mask h k ∉ t.place.toList) k (fun z => hn (e ▸ z))
  exact ⟨K, Nat.lt_of_le_of_lt h1 hk, h2, fun k' hk' => Classical.byContradiction fun c => h3 k' hk' c⟩
theorem Tab.ahead {t : SetTable} {hs : List Int} (T : Tab t hs) {h : Int} {K i j : Nat} (hK : way t.mask h K ∉ t.place.toList) (hi : hs[i]? = some h) (hj : t.place.toList[i]? = some j) : ∃ k, k < K ∧ way t.mask h k = j := by
  obtain ⟨k, e, hb⟩ := T.reach i h j hi hj
  refine ⟨k, Classical.byContradiction fun c => ?_, e⟩
  by_cases d : k = K
  · subst d
    exact hK (e ▸ List.mem_of_getElem? hj)
  · exact hK (hb K (by omega))
theorem Tab.put {t : SetTable} {hs : List Int} (T : Tab t hs) {h : Int} {K p : Nat} (hp : SetTable.below t.place (way t.mask h K) = p) (hK : way t.mask h K ∉ t.place.toList) (hb : ∀ k, k < K → way t.mask h k ∈ t.place.toList) :
    p ≤ hs.length ∧ Tab (t.put (way t.mask h K)).1 (hs.take p ++ h :: hs.drop p) ∧ (t.put (way t.mask h K)).1.fill = hs.length + 1 := by
  generalize ej : way t.mask h K = j at hp hK
  subst hp
  have c1 := (below_cut T.ris j).1
  have hpl : SetTable.below t.place j ≤ t.place.toList.length := by rw [Array.length_toList]; exact c1
  have hph : SetTable.below t.place j ≤ hs.length := T.len ▸ hpl
  have hpp := put_place t j
  have hsize : (t.put j).1.place.size = hs.length + 1 := by rw [← Array.length_toList, hpp, len_ins _ hpl, T.len]
  have up : ∀ {x : Nat}, x ∈ t.place.toList → x ∈ (t.put j).1.place.toList := fun {x} hx => hpp ▸ mem_ins.2 (.inr hx)
  refine ⟨hph, ⟨ris_insert T.ris fun e => hK (List.mem_of_getElem? (by rw [Array.getElem?_toList]; exact e)), put_dm T.dm j, by rw [len_ins _ hph]; exact hsize, T.full, fun x hx => ?_, fun i h' j' h1 h2 => ?_⟩, ?_⟩
  · rw [hpp] at hx
    rcases mem_ins.1 hx with z | z
    · rw [z, ← ej]
      exact way_in h K
    · exact T.bd x z
  · rw [tins_get hs hph] at h1
    rw [hpp, tins_get _ hpl] at h2
    show ∃ k, way t.mask h' k = j' ∧ ∀ k', k' < k → way t.mask h' k' ∈ (t.put j).1.place.toList
    have old : ∀ {i : Nat}, hs[i]? = some h' → t.place.toList[i]? = some j' → ∃ k, way t.mask h' k = j' ∧ ∀ k', k' < k → way t.mask h' k' ∈ (t.put j).1.place.toList := fun {i} a b => by
      obtain ⟨k, e, z⟩ := T.reach i h' j' a b
      exact ⟨k, e, fun k' hk' => up (z k' hk')⟩
    split at h1
    · rw [if_pos (by assumption)] at h2
      exact old h1 h2
    · rw [if_neg (by assumption)] at h2
      split at h1
      · rw [if_pos (by assumption)] at h2
        cases h1
        cases h2
        exact ⟨K, ej, fun k' hk' => up (hb k' hk')⟩
      · rw [if_neg (by assumption)] at h2
        exact old h1 h2
  · show (t.put j).1.place.size + (t.put j).1.dummies.size = hs.length + 1
    rw [hsize, put_dm T.dm j]
    rfl
end SB
set_option Elab.async false
set_option linter.all false
set_option maxRecDepth 100000
set_option maxHeartbeats 4000000
/-! Tables laid anew. -/
namespace SB
open PySem PySem.Spec PyProof.Rows L2
theorem find_free {m : Nat} (F : Full m) (owner : Array (Option Nat)) (h : Int) {j : Nat} (hj : j ≤ m) (hf : oAt owner j = none) :
    ∃ K, SetTable.layClean.free m owner (SetTable.turns m) (SetTable.bits h % (m + 1)) (SetTable.bits h) = some (way m h K) ∧ oAt owner (way m h K) = none ∧ ∀ k, k < K → oAt owner (way m h k) ≠ none := by
  obtain ⟨n, hn, e⟩ := starts F h hj
  have hw : way m h (off m (SetTable.bits h % (m + 1)) (SetTable.bits h) n) = j := by
    show (nth m (runAt m (SetTable.bits h % (m + 1)) (SetTable.bits h)) _).j = j
    rw [nth_off, itL_run]
    exact e
  obtain ⟨K, k1, k2, k3⟩ := st_least (p := fun k => oAt owner (way m h k) = none) _ (by show oAt owner (way m h _) = none; rw [hw]; exact hf)
  have occ : ∀ k, k < K → (oAt owner (way m h k)).isNone = false := fun k hk => by
    cases z : oAt owner (way m h k) with
    | none => exact absurd z (k3 k hk)
    | some _ => rfl
  exact ⟨K, free_spec m owner (SetTable.turns m) n _ _ K (by unfold SetTable.turns; omega) k1 occ (by rw [show oAt owner (way m h K) = none from k2]; rfl), k2, k3⟩
theorem own_step {m : Nat} (F : Full m) {done : List Int} {owner : Array (Option Nat)} (W : Own m done owner) (hl : done.length ≤ m) (h : Int) :
    ∃ j, SetTable.layClean.free m owner (SetTable.turns m) (SetTable.bits h % (m + 1)) (SetTable.bits h) = some j ∧ Own m (done ++ [h]) (owner.setIfInBounds j (some done.length)) := by
  obtain ⟨ps, hps, hin⟩ := W.ps
  obtain ⟨j0, h0, hn0⟩ := st_missing ps (m + 1) (by omega)
  have hj0 : oAt owner j0 = none := Classical.byContradiction fun z => hn0 (hin j0 (Nat.le_of_lt_succ h0) z)
  obtain ⟨K, e1, e2, e3⟩ := find_free F owner h (Nat.le_of_lt_succ h0) hj0
  have hjm : way m h K ≤ m := way_in h K
  have hjs : way m h K < owner.size := by rw [W.sz]; omega
  have hself := oAt_set_self (some done.length) hjs
  have other : ∀ {i : Nat}, i ≠ way m h K → oAt (owner.setIfInBounds (way m h K) (some done.length)) i = oAt owner i := fun c => oAt_set_ne _ c
  have mono : ∀ {i : Nat}, oAt owner i ≠ none → oAt (owner.setIfInBounds (way m h K) (some done.length)) i ≠ none := fun {i} hi => by
    by_cases c : i = way m h K
    · rw [c, hself]
      exact fun e => nomatch e
    · rw [other c]
      exact hi
  refine ⟨way m h K, e1, by rw [Array.size_setIfInBounds]; exact W.sz, fun j k hj e => ?_, fun k hk => ?_, way m h K :: ps, by rw [List.length_cons, List.length_append, hps]; rfl, fun j hj e => ?_⟩
  · by_cases c : j = way m h K
    · rw [c, hself] at e
      cases e
      exact ⟨h, K, by rw [List.getElem?_append_right (Nat.le_refl _), Nat.sub_self]; rfl, c.symm, fun k' hk' => mono (e3 k' hk')⟩
    · rw [other c] at e
      obtain ⟨h', K', a1, a2, a3⟩ := W.at_ j k hj e
      exact ⟨h', K', by rw [List.getElem?_append_left (List.getElem?_eq_some_iff.mp a1).1]; exact a1, a2, fun k' hk' => mono (a3 k' hk')⟩
  · rw [List.length_append, List.length_singleton] at hk
    by_cases c : k < done.length
    · obtain ⟨j, hj, e⟩ := W.all k c
      exact ⟨j, hj, by rw [other fun z => by rw [z, e2] at e; cases e]; exact e⟩
    · rw [show k = done.length by omega]
      exact ⟨way m h K, hjm, hself⟩
  · by_cases c : j = way m h K
    · exact c ▸ List.mem_cons_self
    · rw [other c] at e
      exact List.mem_cons_of_mem _ (hin j hj e)
theorem own_fold {m : Nat} (F : Full m) : ∀ (rest done : List Int) (owner : Array (Option Nat)), Own m done owner → done.length + rest.length ≤ m →
    ∃ owner', rest.foldl (stepF m) (some (owner, done.length)) = some (owner', (done ++ rest).length) ∧ Own m (done ++ rest) owner'
  | [], done, owner, W, _ => ⟨owner, by rw [List.append_nil]; rfl, by rw [List.append_nil]; exact W⟩
  | h :: rest, done, owner, W, hl => by
    rw [List.length_cons] at hl
    obtain ⟨j, e, W'⟩ := own_step F W (by omega) h
    have hl' : (done ++ [h]).length = done.length + 1 := by rw [List.length_append]; rfl
    obtain ⟨owner', f, W2⟩ := own_fold F rest (done ++ [h]) _ W' (by rw [hl']; omega)
    rw [List.append_assoc, hl'] at f
    rw [List.append_assoc] at W2
    exact ⟨owner', by rw [List.foldl_cons, stepF_some e]; exact f, W2⟩
theorem lay {m : Nat} (F : Full m) {hs : Array Int} (hn : hs.size ≤ m) : ∃ owner, SetTable.layClean m hs = some owner ∧ Own m hs.toList owner := by
  obtain ⟨owner, f, W⟩ := own_fold F hs.toList [] _ (Own.init m) (by show 0 + hs.toList.length ≤ m; rw [Array.length_toList]; omega)
  refine ⟨owner, ?_, by rwa [List.nil_append] at W⟩
  rw [layClean_eq]
  exact congrArg (Option.map (·.1)) f
theorem anew (t : SetTable) {hs : Array Int} {wanted M : Nat} (hw : SetTable.sizeAbove wanted - 1 = M) (F : Full M) (hn : hs.size ≤ M) :
    ∃ t' order, t.relaid hs wanted = some (t', order) ∧ order.toList.Perm (List.range hs.size) ∧ Tab t' (order.toList.map fun i => hs.getD i 0) ∧ t'.mask = M ∧ t'.led = t.led ∧ t'.plain = t.plain := by
  obtain ⟨owner, e, W⟩ := lay F hn
  have hr : t.relaid hs wanted = some (tabOf t M owner, ((liveOf M owner).map (·.2)).toArray) := by
    rw [relaid_eq, hw, e]
    rfl
  have ris := ris_live (fun j => owner.getD j none) (List.range (M + 1)) (by
    unfold Ris
    exact List.pairwise_lt_range)
  have r1 : Ris ((liveOf M owner).map (·.1)) := ris.1
  have r2 : ∀ x ∈ (liveOf M owner).map (·.1), x ∈ List.range (M + 1) := ris.2
  have nd : ((liveOf M owner).map (·.1)).Nodup := List.Pairwise.imp (fun h => Nat.ne_of_lt h) r1
  have has : ∀ k, k < hs.size → k ∈ (liveOf M owner).map (·.2) := fun k hk => by
    obtain ⟨j, b1, b2⟩ := W.all k (by rw [Array.length_toList]; exact hk)
    exact List.mem_map.mpr ⟨(j, k), (mem_live W.sz).2 ⟨b1, b2⟩, rfl⟩
  have hlen : (liveOf M owner).length = hs.size := by
    obtain ⟨ps, p1, p2⟩ := W.ps
    have a := nat_nodup_len ((liveOf M owner).map (·.1)) ps nd fun x hx => by
      obtain ⟨⟨y, k⟩, hq, rfl⟩ := List.mem_map.mp hx
      obtain ⟨b1, b2⟩ := (mem_live W.sz).1 hq
      exact p2 y b1 (by rw [b2]; exact fun z => nomatch z)
    have b := nat_nodup_len (List.range hs.size) ((liveOf M owner).map (·.2)) List.nodup_range fun k hk => has k (List.mem_range.mp hk)
    rw [List.length_map, p1] at a
    rw [List.length_map, List.length_range] at b
    have hz : hs.toList.length = hs.size := Array.length_toList
    omega
  refine ⟨tabOf t M owner, ((liveOf M owner).map (·.2)).toArray, hr, perm_range hs.size _ (by show ((liveOf M owner).map (·.2)).length = _; rw [List.length_map]; exact hlen) has, ⟨r1, rfl, ?_, F, fun x hx => Nat.le_of_lt_succ (List.mem_range.mp (r2 x hx)), fun i h j h1 h2 => ?_⟩, rfl, rfl, rfl⟩
  · show ((liveOf M owner).map (·.1)).toArray.size = (((liveOf M owner).map (·.2)).map fun i => hs.getD i 0).length
    rw [List.size_toArray, List.length_map, List.length_map, List.length_map]
  · have h1 : (((liveOf M owner).map (·.2)).map fun i => hs.getD i 0)[i]? = some h := h1
    have h2 : ((liveOf M owner).map (·.1))[i]? = some j := h2
    rw [List.getElem?_map, List.getElem?_map] at h1
    rw [List.getElem?_map] at h2
    cases hq : (liveOf M owner)[i]? with
    | none => rw [hq] at h2; cases h2
    | some q =>
      obtain ⟨y, k⟩ := q
      rw [hq] at h1 h2
      have ej : y = j := Option.some.inj h2
      have eh : hs.getD k 0 = h := Option.some.inj h1
      subst ej
      obtain ⟨b1, b2⟩ := (mem_live W.sz).1 (List.mem_of_getElem? hq)
      obtain ⟨h0, K, a1, a2, a3⟩ := W.at_ y k b1 b2
      have e0 : hs.getD k 0 = h0 := by rw [Array.getD_eq_getD_getElem?, ← Array.getElem?_toList, a1]; rfl
      obtain rfl : h0 = h := e0.symm.trans eh
      refine ⟨K, a2, fun k' hk' => ?_⟩
      show way M h0 k' ∈ (liveOf M owner).map (·.1)
      cases z : oAt owner (way M h0 k') with
      | none => exact absurd z (a3 k' hk')
      | some k2 => exact List.mem_map.mpr ⟨(way M h0 k', k2), (mem_live W.sz).2 ⟨way_in h0 k', z⟩, rfl⟩
end SB
set_option Elab.async false
set_option linter.all false
set_option maxRecDepth 100000
set_option maxHeartbeats 4000000
/-! Sets of tuples of ints: the search. -/
namespace SB
open PySem PySem.Spec PyProof.Rows L2
structure TSet (P : Program) (w : World) (h : Heap) (a : Addr) (L : List (Addr × List Int)) (es : Array (Int × Value)) (ep : Nat) (t : SetTable) : Prop where
  ob : ∃ o, h.get? a = some o ∧ o.ExactSet ∧ o.data = .set es ep t
  rows : es.toList = rowsOf P w L
  tab : Tab t (L.map fun p => thash P w p.2)
  nd : (L.map (·.2)).Nodup
  tup : ∀ p ∈ L, IsT P w h p.2 p.1
  plain : t.plain = true
  room : L.length * 5 < t.mask * 3
section
variable {P : Program} {w : World} {A : Around} {E : Value → Shared → Prop} {s : Shared} {a : Addr} {L : List (Addr × List Int)} {es : Array (Int × Value)} {ep : Nat} {t : SetTable}
theorem TSet.size {h : Heap} (R : TSet P w h a L es ep t) : es.size = L.length := by
  have h := congrArg List.length R.rows
  unfold rowsOf at h
  rwa [Array.length_toList, List.length_map] at h
theorem TSet.psz {h : Heap} (R : TSet P w h a L es ep t) : t.place.size = L.length := by
  have h1 := R.tab.sz
  rwa [List.length_map] at h1
theorem TSet.fits {h : Heap} (R : TSet P w h a L es ep t) : t.fits es.size = true := by
  have h1 := R.psz
  have h2 := R.size
  have h3 := R.room
  unfold SetTable.fits SetTable.fill
  rw [R.tab.dm, Bool.and_eq_true, beq_iff_eq, decide_eq_true_eq]
  show t.place.size = es.size ∧ t.place.size + 0 ≤ t.mask
  omega
theorem TSet.entry {h : Heap} (R : TSet P w h a L es ep t) {i : Nat} {p : Addr × List Int} (hi : L[i]? = some p) : es[i]? = some (thash P w p.2, Value.ref p.1) := by
  rw [← Array.getElem?_toList, R.rows]
  unfold rowsOf
  rw [List.getElem?_map, hi]
  rfl
theorem TSet.gw {h : Heap} (R : TSet P w h a L es ep t) : ¬ t.gaveWay = true := by
  unfold SetTable.gaveWay
  rw [R.tab.full.odd]
  decide
theorem no_dummy (m : Nat) : ∀ (n : Nat) (p : SetTable.Probe), p.dummy = none → (nth m p n).dummy = none
  | 0, _, h => h
  | n + 1, p, h => no_dummy m n (adv m p) (by unfold adv; split <;> exact h)
/-- the first state of the search for a hash -/
abbrev st0 (m : Nat) (h : Int) : SetTable.Probe := runAt m (SetTable.bits h % (m + 1)) (SetTable.bits h)
theorem look_from (ad : Bool) (R : TSet P w s.heap a L es ep t) {x : Addr} {k : List Int} (hx : IsT P w s.heap k x) (hu : A.units < cLine) {K : Nat} (hKf : K < 10 * SetTable.turns t.mask)
    (hK : way t.mask (thash P w k) K ∉ t.place.toList) (hKb : ∀ c, c < K → way t.mask (thash P w k) c ∈ t.place.toList) {Q : SetFound → Shared → Prop}
    (hin : k ∈ L.map (·.2) → ∀ r, (ad = false → r.isSome = true) → Q (.there r) s) (hout : k ∉ L.map (·.2) → Q (.free (way t.mask (thash P w k) K) false) s) :
    ∀ (f c : Nat) (stand : Option SetTable.Probe), stand.getD (t.probeStart (thash P w k)) = nth t.mask (st0 t.mask (thash P w k)) c → c ≤ K → K - c < f →
      (∀ (i : Nat) p, L[i]? = some p → p.2 = k → ∃ c', c ≤ c' ∧ c' < K ∧ t.place.toList[i]? = some (way t.mask (thash P w k) c')) →
      wpAny (model P w) A (setSearchFrom a (.ref x) (thash P w k) ad f stand) Q E s
  | 0, c, stand, _, _, hf, _ => absurd hf (Nat.not_lt_zero _)
  | f + 1, c, stand, hst, hc, hf, hre => by
    obtain ⟨o, ho, hex, hd⟩ := R.ob
    rw [setSearchFrom_succ]
    refine wpAny_bind (wpAny_setState_of ho hd R.fits ?_)
    dsimp only
    refine wp_if_neg R.gw ?_
    try refine wpAny_bind (wpAny_pure ?_)
    have sh : ∀ q, nth t.mask (nth t.mask (st0 t.mask (thash P w k)) c) q = nth t.mask (st0 t.mask (thash P w k)) (c + q) := fun q => (nth_add t.mask c _ q).symm
    have e1 : ∀ q, (nth t.mask (nth t.mask (st0 t.mask (thash P w k)) c) q).j = way t.mask (thash P w k) (c + q) := fun q => congrArg SetTable.Probe.j (sh q)
    have spec := go_spec t R.tab.ris R.tab.dm (fun i => (es[i]?.map (·.1)).getD 0) (thash P w k) (10 * SetTable.turns t.mask) (K - c) _ (no_dummy t.mask c (st0 t.mask (thash P w k)) rfl) (by omega)
      (fun q hq => by rw [e1]; exact hKb (c + q) (by omega)) (by rw [e1, show c + (K - c) = K by omega]; exact hK)
    have hashAt : ∀ (i : Nat) p, L[i]? = some p → (fun i => (es[i]?.map (·.1)).getD 0) i = thash P w p.2 := fun i p hp => by
      show (es[i]?.map (·.1)).getD 0 = _
      rw [R.entry hp]
      rfl
    rcases spec with ⟨q, i, hq, hi, hh, hno, hpr⟩ | ⟨hno, hpr⟩
    · have hpr' : t.probe (fun i => (es[i]?.map (·.1)).getD 0) (thash P w k) (stand.getD (t.probeStart (thash P w k))) = some (.candidate (way t.mask (thash P w k) (c + q)) i (nth t.mask (st0 t.mask (thash P w k)) (c + (q + 1)))) := by
        rw [hst, ← e1, ← sh]
        exact hpr
      rw [hpr']
      dsimp only
      rw [e1] at hi
      have hil : i < L.length := by
        have h1 := (List.getElem?_eq_some_iff.mp hi).1
        rw [Array.length_toList, R.psz] at h1
        exact h1
      obtain ⟨p, hp⟩ : ∃ p, L[i]? = some p := ⟨_, List.getElem?_eq_getElem hil⟩
      have hmem : p ∈ L := List.mem_of_getElem? hp
      have hsl : t.slot (way t.mask (thash P w k) (c + q)) = .live i := slot_live R.tab.ris hi
      have rest : wpAny (model P w) A (searchRest a (.ref x) (thash P w k) ad f es t (way t.mask (thash P w k) (c + q)) i (nth t.mask (st0 t.mask (thash P w k)) (c + (q + 1)))) Q E s := by
        unfold searchRest
        rw [R.entry hp]
        dsimp only
        refine wpAny_bind (wpAny_holding (wpAny_eqBool_tuple hu (R.tup p hmem) hx ?_))
        refine wpAny_bind (wpAny_setState_of ho hd R.fits ?_)
        dsimp only
        by_cases hkk : p.2 = k
        · have hkm : k ∈ L.map (·.2) := List.mem_map.mpr ⟨p, hmem, hkk⟩
          cases ad with
          | true =>
            refine wp_if_pos (by simp [hkk]) ?_
            exact wpAny_pure (hin hkm none fun z => by cases z)
          | false =>
            refine wp_if_neg (by simp) ?_
            try refine wpAny_bind (wpAny_pure ?_)
            rw [sameMem]
            dsimp only
            simp only [if_true, hsl, R.entry hp]
            refine wpAny_bind (wpAny_isSame_ref_self (wpAny_bind (wpAny_pure ?_)))
            simp only [if_true]
            refine wp_if_pos (by simp [hkk]) ?_
            exact wpAny_pure (hin hkm _ fun _ => rfl)
        · refine wp_if_neg (by simp [hkk]) ?_
          try refine wpAny_bind (wpAny_pure ?_)
          rw [sameMem]
          dsimp only
          simp only [if_true, hsl, R.entry hp]
          refine wpAny_bind (wpAny_isSame_ref_self (wpAny_bind (wpAny_pure ?_)))
          simp only [if_true]
          refine wp_if_neg (by simp [hkk]) ?_
          refine look_from ad R hx hu hKf hK hKb hin hout f (c + (q + 1)) _ rfl (by omega) (by omega) fun i0 p0 h0 hk0 => ?_
          obtain ⟨c', a1, a2, a3⟩ := hre i0 p0 h0 hk0
          refine ⟨c', ?_, a2, a3⟩
          by_cases z : c' < c + q
          · exact absurd ((hashAt i0 p0 h0).trans (congrArg (thash P w) hk0)) (hno (c' - c) i0 (by omega) (by rw [e1, show c + (c' - c) = c' by omega]; exact a3))
          · by_cases y : c' = c + q
            · rw [y] at a3
              have s0 := slot_live R.tab.ris a3
              rw [hsl] at s0
              injection s0 with s0
              rw [← s0, hp] at h0
              exact absurd ((congrArg Prod.snd (Option.some.inj h0)).trans hk0) hkk
            · omega
      by_cases hl : t.led = true
      · refine wp_if_neg (by simp [hl]) ?_
        try refine wpAny_bind (wpAny_pure ?_)
        exact rest
      · refine wp_if_pos (by simp [hl]) ?_
        refine wpAny_bind (seen_tup hx (fun y hy => ?_) ?_)
        · obtain ⟨e, he, ee⟩ := List.mem_map.mp hy
          have he1 : e ∈ es ∧ e.1 = thash P w k := by simpa using he
          have he2 : e ∈ es.toList := by simpa using he1.1
          rw [R.rows] at he2
          obtain ⟨p2, hp2, e2⟩ := List.mem_map.mp he2
          exact ⟨p2.2, p2.1, by rw [← ee, ← e2], R.tup p2 hp2⟩
        · refine wp_if_neg (by decide) ?_
          try refine wpAny_bind (wpAny_pure ?_)
          exact rest
    · have hpr' : t.probe (fun i => (es[i]?.map (·.1)).getD 0) (thash P w k) (stand.getD (t.probeStart (thash P w k))) = some (.empty (way t.mask (thash P w k) K) none) := by
        have e2 : way t.mask (thash P w k) K = (nth t.mask (nth t.mask (st0 t.mask (thash P w k)) c) (K - c)).j := by rw [e1, show c + (K - c) = K by omega]
        rw [hst, e2]
        exact hpr
      rw [hpr']
      dsimp only
      refine wpAny_pure (hout fun hm => ?_)
      obtain ⟨p0, h0, hk0⟩ := List.mem_map.mp hm
      obtain ⟨i0, h00⟩ := List.mem_iff_getElem?.mp h0
      obtain ⟨c', a1, a2, a3⟩ := hre i0 p0 h00 hk0
      exact hno (c' - c) i0 (by omega) (by rw [e1, show c + (c' - c) = c' by omega]; exact a3) ((hashAt i0 p0 h00).trans (congrArg (thash P w) hk0))
theorem look (ad : Bool) (R : TSet P w s.heap a L es ep t) {x : Addr} {k : List Int} (hx : IsT P w s.heap k x) (hu : A.units < cLine) {Q : SetFound → Shared → Prop}
    (hin : k ∈ L.map (·.2) → ∀ r, (ad = false → r.isSome = true) → Q (.there r) s)
    (hout : ∀ K, k ∉ L.map (·.2) → way t.mask (thash P w k) K ∉ t.place.toList → (∀ c, c < K → way t.mask (thash P w k) c ∈ t.place.toList) → Q (.free (way t.mask (thash P w k) K) false) s) :
    wpAny (model P w) A (setSearch a (.ref x) (thash P w k) ad) Q E s := by
  have hroom := R.room
  have hfew := R.tab.full.few
  obtain ⟨K, hKf, hK, hKb⟩ := R.tab.free (by rw [List.length_map]; omega) (thash P w k)
  have hbig : K < 100000 := by unfold SetTable.turns at hKf; omega
  unfold setSearch
  refine look_from ad R hx hu hKf hK hKb hin (fun hn => hout K hn hK hKb) 100000 0 none rfl (Nat.zero_le _) (by omega) fun i p hp hk => ?_
  have hi : (L.map fun p => thash P w p.2)[i]? = some (thash P w k) := by rw [List.getElem?_map, hp, ← hk]; rfl
  have hil : i < t.place.toList.length := by
    have h1 := (List.getElem?_eq_some_iff.mp hp).1
    rw [Array.length_toList, R.psz]
    exact h1
  have hj := List.getElem?_eq_getElem hil
  obtain ⟨c, hc, e⟩ := R.tab.ahead hK hi hj
  exact ⟨c, Nat.zero_le _, hc, by rw [hj, e]⟩
end
end SB
set_option Elab.async false
set_option linter.all false
set_option maxRecDepth 100000
set_option maxHeartbeats 4000000
/-! Sets of tuples of ints: adding. -/
namespace SB
open PySem PySem.Spec PyProof.Rows L2
section
variable {P : Program} {w : World} {A : Around} {E : Value → Shared → Prop} {s : Shared} {a : Addr} {L : List (Addr × List Int)} {es : Array (Int × Value)} {ep : Nat} {t : SetTable}
theorem rows_size {L : List (Addr × List Int)} {es : Array (Int × Value)} (h : es.toList = rowsOf P w L) : es.size = L.length := by
  have h := congrArg List.length h
  unfold rowsOf at h
  rwa [Array.length_toList, List.length_map] at h
/-- the table laid anew, larger -/
theorem grow {o : Obj} (ho : s.heap.get? a = some o) (hex : o.ExactSet) (hd : o.data = .set es ep t) (hrows : es.toList = rowsOf P w L) (hsz : t.place.size = es.size) (hdm : t.dummies = #[]) (hfl : es.size ≤ t.mask)
    (nd : (L.map (·.2)).Nodup) (tup : ∀ p ∈ L, IsT P w s.heap p.2 p.1) (pl : t.plain = true) (few : L.length ≤ 1000) {wanted M : Nat}
    (hw : SetTable.sizeAbove wanted = M + 1) (F : Full M) (hn : L.length * 5 < M * 3) {Q : Unit → Shared → Prop}
    (hQ : ∀ h' L' es' ep' t', Heap.SameBut a s.heap h' → TSet P w h' a L' es' ep' t' → t'.mask = M → L'.Perm L → Q () { s with heap := h' }) : wpAny (model P w) A (setRelay a wanted) Q E s := by
  have hsl := rows_size hrows
  have hM := F.few
  have hfits : t.fits es.size = true := by
    unfold SetTable.fits SetTable.fill
    rw [hdm, Bool.and_eq_true, beq_iff_eq, decide_eq_true_eq]
    show t.place.size = es.size ∧ t.place.size + 0 ≤ t.mask
    omega
  obtain ⟨t', order, e, hp, T, em, el, ep'⟩ := anew t (hs := es.map (·.1)) (wanted := wanted) (M := M) (by omega) F (by rw [Array.size_map, hsl]; omega)
  rw [Array.size_map, hsl] at hp
  obtain ⟨L2, r1, r2, r3⟩ := order_rows L es order hrows hp
  rw [← r3] at T
  have hs2 : (order.filterMap (es[·]?)).size = es.size := by rw [rows_size r1, r2.length_eq, hsl]
  rw [setRelay_eq]
  refine wpAny_bind (wpAny_setState_of ho hd hfits ?_)
  dsimp only
  refine wp_if_neg (by rw [sizeLine_eq]; omega) ?_
  try refine wpAny_bind (wpAny_pure ?_)
  rw [e]
  dsimp only
  refine wpAny_bind ?_
  refine wp_if_neg (by rw [hs2]; simp) ?_
  try refine wpAny_bind (wpAny_pure ?_)
  refine wpAny_pure ?_
  dsimp only
  refine wpAny_storeSet_of ho hd ?_ (by rw [hs2, hsl, sizeLine_eq]; omega)
  have sb : Heap.SameBut a s.heap (s.heap.update a (Obj.putSet (order.filterMap (es[·]?)) t')) := Heap.SameBut.update ..
  refine hQ _ L2 (order.filterMap (es[·]?)) (ep + 1) t' sb ⟨⟨_, store_at ho hd, ⟨hex.1, hex.2.1, hex.2.2⟩, rfl⟩, r1, T, (r2.map (·.2)).nodup_iff.mpr nd, fun p hpm => isT_same (tup p (r2.mem_iff.mp hpm)) ho hd sb, by rw [ep']; exact pl, by rw [r2.length_eq, em]; exact hn⟩ em r2
theorem size5 : SetTable.sizeAbove (SetTable.grown 5) = 31 + 1 := by decide +kernel
theorem size19 : SetTable.sizeAbove (SetTable.grown 19) = 127 + 1 := by decide +kernel
theorem size77 : SetTable.sizeAbove (SetTable.grown 77) = 511 + 1 := by decide +kernel
def Mask (m : Nat) : Prop := m = 7 ∨ m = 31 ∨ m = 127 ∨ m = 511
theorem insert (R : TSet P w s.heap a L es ep t) (hmk : Mask t.mask) {x : Addr} {k : List Int} (hx : IsT P w s.heap k x) (hu : A.units < cLine) (hfew : L.length < 300) {Q : Bool → Shared → Prop}
    (hQ : ∀ b h' L' es' ep' t', Heap.SameBut a s.heap h' → TSet P w h' a L' es' ep' t' → Mask t'.mask → (k ∈ L.map (·.2) → L' = L) → (k ∉ L.map (·.2) → L'.Perm ((x, k) :: L)) → Q b { s with heap := h' }) :
    wpAny (model P w) A (setAddHashed a (.ref x) (thash P w k)) Q E s := by
  obtain ⟨o, ho, hex, hd⟩ := R.ob
  have hsl := R.size
  have hroom := R.room
  unfold setAddHashed
  refine wpAny_holding ?_
  rw [show (100000 : Nat) = 99999 + 1 from rfl, setAddHashedIn_succ]
  refine wpAny_bind (wpAny_setState_of ho hd R.fits ?_)
  dsimp only
  refine wp_if_neg (by simp [byScan, Value.scannable]) ?_
  try refine wpAny_bind (wpAny_pure ?_)
  refine wpAny_bind (look true R hx hu (fun hm r _ => ?_) fun K hm hK hb => ?_)
  · dsimp only
    exact wpAny_pure (hQ false s.heap L es ep t (Heap.SameBut.refl a s.heap) R hmk (fun _ => rfl) fun z => absurd hm z)
  · dsimp only
    refine wpAny_bind (wpAny_setState_of ho hd R.fits ?_)
    dsimp only
    obtain ⟨p, hpp⟩ : ∃ p, SetTable.below t.place (way t.mask (thash P w k) K) = p := ⟨_, rfl⟩
    obtain ⟨q2, q3, q9⟩ := R.tab.put hpp hK hb
    have q1 : (t.put (way t.mask (thash P w k) K)).2 = p := hpp
    have q4 : (t.put (way t.mask (thash P w k) K)).1.mask = t.mask := rfl
    have q5 : (t.put (way t.mask (thash P w k) K)).1.led = t.led := rfl
    have hp1 : (t.put (way t.mask (thash P w k) K)).1.plain = true := R.plain
    generalize t.put (way t.mask (thash P w k) K) = pt at q1 q3 q4 q5 q9 hp1 ⊢
    obtain ⟨t1, p1⟩ := pt
    dsimp only at q1 q3 q4 q5 q9 hp1 ⊢
    subst q1
    first
      | (refine wpAny_bind ?_; refine wp_if_pos hp1 ?_; refine hashBy_tup hx ?_)
      | refine wp_if_pos hp1 (wpAny_bind (hashBy_tup hx ?_))
    simp only [if_true]
    have hin : (SetTable.insertAt es p1 (thash P w k, Value.ref x)).toList = rowsOf P w (L.take p1 ++ (x, k) :: L.drop p1) := by
      rw [SetTable.toList_insertAt, rows_put, R.rows]
    have pm := put_perm L p1 (x, k)
    have hlen : (L.take p1 ++ (x, k) :: L.drop p1).length = L.length + 1 := pm.length_eq
    have hhs : (L.take p1 ++ (x, k) :: L.drop p1).map (fun p => thash P w p.2) = (L.map fun p => thash P w p.2).take p1 ++ thash P w k :: (L.map fun p => thash P w p.2).drop p1 := by
      rw [List.map_append, List.map_cons, List.map_take, List.map_drop]
    rw [← hhs] at q3
    have nd1 : ((L.take p1 ++ (x, k) :: L.drop p1).map (·.2)).Nodup := by
      refine (pm.map (·.2)).nodup_iff.mpr ?_
      rw [List.map_cons]
      exact List.nodup_cons.mpr ⟨hm, R.nd⟩
    have hes := (rows_size hin).trans hlen
    generalize SetTable.insertAt es p1 (thash P w k, Value.ref x) = es1 at hin hes ⊢
    generalize L.take p1 ++ (x, k) :: L.drop p1 = L1 at pm hlen q3 nd1 hin
    refine wpAny_bind (wpAny_storeSet_of ho hd ?_ (by rw [hes, sizeLine_eq]; omega))
    have sb : Heap.SameBut a s.heap (s.heap.update a (Obj.putSet es1 t1)) := Heap.SameBut.update ..
    have ho1 := store_at (es' := es1) (t' := t1) ho hd
    generalize s.heap.update a (Obj.putSet es1 t1) = h1 at sb ho1 ⊢
    have tup1 : ∀ p ∈ L1, IsT P w h1 p.2 p.1 := fun p hp => by
      rcases List.mem_cons.mp (pm.mem_iff.mp hp) with e | hp
      · rw [e]; exact isT_same hx ho hd sb
      · exact isT_same (R.tup p hp) ho hd sb
    have full : t1.tooFull = true ↔ (L.length + 1) * 5 ≥ t.mask * 3 := by
      unfold SetTable.tooFull
      rw [decide_eq_true_eq, q9, List.length_map, q4]
    by_cases hf : t1.tooFull = true
    · first
        | (refine wpAny_bind ?_; refine wp_if_pos (by simp [hf]) ?_)
        | (refine wp_if_pos (by simp [hf]) ?_; refine wpAny_bind ?_)
      have hfull := full.mp hf
      rw [hsl]
      have hsz1 : t1.place.size = es1.size := by
        have h := q3.sz
        rw [List.length_map, hlen] at h
        rw [h, hes]
      have go : ∀ M, SetTable.sizeAbove (SetTable.grown (L.length + 1)) = M + 1 → Full M → Mask M → (L.length + 1) * 5 < M * 3 → L.length + 1 ≤ t.mask →
          wpAny (model P w) A (setRelay a (SetTable.grown (L.length + 1))) (fun _ s' => wpAny (model P w) A (pure true) Q E s') E { s with heap := h1 } := fun M g1 g2 g3 g4 g5 => by
        refine grow (s := { s with heap := h1 }) (M := M) ho1 ⟨hex.1, hex.2.1, hex.2.2⟩ rfl hin hsz1 q3.dm (by rw [hes, q4]; exact g5) nd1 tup1 hp1 (by rw [hlen]; omega) g1 g2 (by rw [hlen]; exact g4) ?_
        intro h2 L2 es2 ep2 t2 sb2 R2 em2 pm2
        exact wpAny_pure (hQ true h2 L2 es2 ep2 t2 (sb.trans sb2) R2 (by rw [em2]; exact g3) (fun z => absurd z hm) fun _ => pm2.trans pm)
      rcases hmk with e | e | e | e
      · have el : L.length = 4 := by rw [e] at hfull hroom; omega
        exact go 31 (by rw [el, size5]) full31 (.inr (.inl rfl)) (by omega) (by omega)
      · have el : L.length = 18 := by rw [e] at hfull hroom; omega
        exact go 127 (by rw [el, size19]) full127 (.inr (.inr (.inl rfl))) (by omega) (by omega)
      · have el : L.length = 76 := by rw [e] at hfull hroom; omega
        exact go 511 (by rw [el, size77]) full511 (.inr (.inr (.inr rfl))) (by omega) (by omega)
      · rw [e] at hfull
        omega
    · first
        | refine wp_if_neg (by simp [hf]) ?_
        | (refine wpAny_bind ?_; refine wp_if_neg (by simp [hf]) ?_; refine wpAny_pure ?_)
      have hnf : ¬ (L.length + 1) * 5 ≥ t.mask * 3 := fun z => hf (full.mpr z)
      refine wpAny_pure (hQ true h1 L1 es1 (ep + 1) t1 sb ⟨⟨_, ho1, ⟨hex.1, hex.2.1, hex.2.2⟩, rfl⟩, hin, q3, nd1, tup1, hp1, ?_⟩ (by rw [q4]; exact hmk) (fun z => absurd z hm) fun _ => pm)
      rw [hlen, q4]
      omega
end
end SB
set_option Elab.async false
set_option linter.all false
set_option maxRecDepth 100000
set_option maxHeartbeats 4000000
/-! Sets of tuples of ints: in, add, as the hand layer reads them. -/
namespace SB
open PySem PySem.Spec PyProof.Rows L2
section
variable {P : Program} {w : World} {A : Around} {E : Value → Shared → Prop} {s : Shared} {a : Addr} {L : List (Addr × List Int)} {es : Array (Int × Value)} {ep : Nat} {t : SetTable}
theorem TSet.typeIs (R : TSet P w s.heap a L es ep t) : s.TypeIs (.ref a) "set" := let ⟨o, ho, hc, _⟩ := R.ob; ⟨o, ho, hc.1⟩
theorem TSet.noDict (R : TSet P w s.heap a L es ep t) : ∀ b, Value.ref a = .ref b → ∃ ob, s.heap.get? b = some ob ∧ ob.dict = none := fun b e => by
  injection e with e
  subst e
  exact let ⟨o, ho, hc, _⟩ := R.ob; ⟨o, ho, hc.2.1⟩
theorem find (R : TSet P w s.heap a L es ep t) {x : Addr} {k : List Int} (hx : IsT P w s.heap k x) (hu : A.units < cLine) {Q : Option Nat → Shared → Prop} (h : ∀ r : Option Nat, r.isSome = decide (k ∈ L.map (·.2)) → Q r s) :
    wpAny (model P w) A (setFind a (.ref x) (thash P w k)) Q E s := by
  obtain ⟨o, ho, hex, hd⟩ := R.ob
  unfold setFind
  rw [show (100000 : Nat) = 99999 + 1 from rfl]
  unfold setFindIn
  refine wpAny_bind (wpAny_setState_of ho hd R.fits ?_)
  dsimp only
  refine wp_if_neg (by simp [byScan, Value.scannable]) ?_
  try refine wpAny_bind (wpAny_pure ?_)
  refine wpAny_bind (look false R hx hu (fun hm r hr => ?_) fun K hm _ _ => ?_)
  · dsimp only
    exact wpAny_pure (h r (by rw [hr rfl]; exact (decide_eq_true hm).symm))
  · dsimp only
    exact wpAny_pure (h none (decide_eq_false hm).symm)
theorem in_set (R : TSet P w s.heap a L es ep t) {x : Addr} {k : List Int} (hx : IsT P w s.heap k x) (hu : A.units + 20 < cLine) {Q : Value → Shared → Prop} (h : ∀ n, Q (.bool (decide (k ∈ L.map (·.2)))) { s with toks := n }) :
    wpAny (model P w) A (compareOp .In (.ref x) (.ref a)) Q E s := by
  have hu1 : A.in1.units < cLine := by show A.units + 1 < cLine; omega
  show wpAny _ _ (do return .bool (← contains (.ref a) (.ref x))) Q E s
  refine wpAny_bind ?_
  unfold contains
  try with_reducible refine wpAny_holding ?_
  refine wpAny_bind (wpAny_specialOf R.typeIs F.slot_set_contains.lookup ?_)
  show wpAny _ _ (if (some (Value.builtin "set.__contains__") == some Value.none) = true then _ else _) _ E s
  rw [if_neg (by rw [beq_builtin_none]; exact Bool.false_ne_true)]
  refine wpAny_bind (wpAny_callSpecialUnlessNone?_slot (name := Str.ofString "__contains__") R.typeIs F.slot_set_contains
    (wpAny_call_entry F.slot_set_contains R.typeIs entry_set_contains ?_ (F.args_set_contains_2 _ _)))
  unfold Builtin.«frozenset.__contains__» Builtin.Frozenset.oneOther
  simp only [List.isEmpty_nil, bind_assoc]
  unfold Builtin.Frozenset.addrOf Builtin.Frozenset.withSetAsKey setContains
  refine wpAny_bind (wpAny_pure ?_)
  try dsimp only
  refine wpAny_bind (wpAny_pure ?_)
  try dsimp only
  refine wpAny_bind (wpAny_tryCatch ?_)
  refine wpAny_holding ?_
  refine wpAny_bind (wpAny_pyHash_tuple ?h1 hx ?_)
  case h1 => exact hu1
  refine wpAny_bind (find (s := { s with toks := s.toks + (k.length + 1) }) R hx ?h2 fun r hr => ?_)
  case h2 => exact hu1
  refine wpAny_pure ?_
  show wpAny _ _ (ret (Value.bool r.isSome)) _ _ _
  rw [hr]
  exact wpAny_pure ⟨_, rfl, wpAny_truthy_bool (wpAny_pure (h _))⟩
theorem add_set (R : TSet P w s.heap a L es ep t) (hmk : Mask t.mask) {x : Addr} {k : List Int} (hx : IsT P w s.heap k x) (hu : A.units + 20 < cLine) (hfew : L.length < 300) {Q : Value → Shared → Prop}
    (h : ∀ n h' L' es' ep' t', Heap.SameBut a s.heap h' → TSet P w h' a L' es' ep' t' → Mask t'.mask → (k ∈ L.map (·.2) → L' = L) → (k ∉ L.map (·.2) → L'.Perm ((x, k) :: L)) → Q .none { s with heap := h', toks := n }) :
    wpAny (model P w) A (call (.builtin "set.add") [.ref a, .ref x]) Q E s := by
  have hu1 : A.in1.units < cLine := by show A.units + 1 < cLine; omega
  refine wpAny_call_entry F.slot_set_add R.typeIs F.entry_set_add ?_ (F.args_set_add_2 _ _)
  unfold Builtin.«set.add» Builtin.Frozenset.oneOther
  simp only [List.isEmpty_nil, bind_assoc]
  unfold Builtin.Frozenset.addrOf setAdd
  refine wpAny_bind (wpAny_pure ?_)
  try dsimp only
  refine wpAny_bind (wpAny_pure ?_)
  try dsimp only
  refine wpAny_bind ?_
  refine wpAny_holding ?_
  refine wpAny_bind (wpAny_pyHash_tuple ?h1 hx ?_)
  case h1 => exact hu1
  refine insert (s := { s with toks := s.toks + (k.length + 1) }) R hmk hx ?h2 hfew fun b h' L' es' ep' t' sb R' mk c1 c2 => ?_
  case h2 => exact hu1
  show wpAny _ _ (ret Value.none) _ _ _
  exact wpAny_pure ⟨_, rfl, h _ h' L' es' ep' t' sb R' mk c1 c2⟩
end
end SB
set_option Elab.async false
set_option linter.all false
set_option maxRecDepth 100000
set_option maxHeartbeats 4000000
/-! Sets of tuples of ints, as objects of the hand layer: set(), in, add. -/
namespace SB
open PySem PySem.Spec PyProof.Rows L2
structure TS0 (P : Program) (w : World) (h : Heap) (a : Addr) (L : List (Addr × List Int)) : Prop where
  ex : ∃ (es : Array (Int × Value)) (ep : Nat) (t : SetTable), (∃ o, h.get? a = some o ∧ o.ExactSet ∧ o.data = .set es ep t) ∧ es.toList = rowsOf P w L ∧ Tab t (L.map fun p => thash P w p.2) ∧ (L.map (·.2)).Nodup ∧ t.plain = true ∧ L.length * 5 < t.mask * 3 ∧ Mask t.mask
def SetO (a : Addr) (L : List (Addr × List Int)) : HO := .ext fun h => ∀ P w, TS0 P w h a L
section
variable {P : Program} {w : World} {h : Heap} {a : Addr} {L : List (Addr × List Int)}
theorem TSet.t0 {es : Array (Int × Value)} {ep : Nat} {t : SetTable} (R : TSet P w h a L es ep t) (m : Mask t.mask) : TS0 P w h a L := ⟨es, ep, t, R.ob, R.rows, R.tab, R.nd, R.plain, R.room, m⟩
theorem TS0.full (R : TS0 P w h a L) (ht : ∀ p ∈ L, IsT P w h p.2 p.1) : ∃ es ep t, TSet P w h a L es ep t ∧ Mask t.mask := by
  obtain ⟨es, ep, t, h1, h2, h3, h4, h5, h7, h8⟩ := R.ex
  exact ⟨es, ep, t, ⟨h1, h2, h3, h4, ht, h5, h7⟩, h8⟩
theorem TS0.has (R : TS0 P w h a L) : ∃ o, h.get? a = some o := by
  obtain ⟨es, ep, t, ⟨o, ho, _⟩, _⟩ := R.ex
  exact ⟨o, ho⟩
theorem TS0.keep {h' : Heap} (R : TS0 P w h a L) (k : ∀ o, h.get? a = some o → h'.get? a = some o) : TS0 P w h' a L := by
  obtain ⟨es, ep, t, ⟨o, ho, hr⟩, r⟩ := R.ex
  exact ⟨es, ep, t, ⟨o, k o ho, hr⟩, r⟩
theorem TS0.any (R : TS0 P w h a L) (P' : Program) (w' : World) : TS0 P' w' h a L := ⟨R.ex⟩
theorem setO_new {H : Hp} (R : TS0 P w h a L) : ObjOk P w H h a (SetO a L) := ⟨fun P w => R.any P w, R.has, fun h1 h2 p k P w => TS0.keep (p P w) k⟩
theorem TS0.fresh (ho : h.get? a = some { cls := .type "set", dict := none, data := .set #[] 0 (.fresh 0 0 (!w.params.followText "set-order")) }) : TS0 P w h a [] := by
  refine ⟨#[], 0, .fresh 0 0 (!w.params.followText "set-order"), ⟨_, ho, ⟨rfl, rfl, rfl⟩, rfl⟩, rfl, ⟨List.Pairwise.nil, rfl, rfl, full7, fun x hx => (by cases hx), fun i h j h1 _ => (by cases h1)⟩, List.Pairwise.nil, rfl, (show (0 : Nat) * 5 < 7 * 3 by decide), .inl rfl⟩
variable {X : Cx}
theorem setO_get {pins : List (Addr × Obj)} {σ : L2.St} {H : Hp} {s : Shared} (I : Inv X pins σ H s) (ha : H a = some (SetO a L)) : TS0 X.prog X.w s.heap a L := (I.hok a _ ha).1 _ _
def rSetN : List V → Hp → VK → Prop := fun xs H Q => xs = [] ∧ ∀ p, H p = none → Q (.ref p) (upd H p (SetO p []))
theorem cr_setN : CallR X (.type "set") rSetN := by
  intro pins s σ H xs us Q I r h
  obtain ⟨rfl, q⟩ := h
  cases r
  refine setR_new fun _ => ?_
  exact ⟨.ref _, upd H s.heap.objs.size (SetO s.heap.objs.size []), I.laid (t' := s.toks) (fun b u e => Heap.get?_push_of_some _ e) (Nat.le_refl _) (setO_new (TS0.fresh (Heap.get?_push_size _ rfl))), rfl, q _ (I.hok.fresh (Nat.le_refl _))⟩
/-- k in s -/
def rInT (K : PySem.W.Frag) : R2 := fun x y H Q => ∃ (b a : Addr) (k : List Int) (L : List (Addr × List Int)), x = .ref b ∧ y = .ref a ∧ SqT K H b (k.map V.int) ∧ H a = some (SetO a L) ∧ (∀ p ∈ L, SqT K H p.1 (p.2.map V.int)) ∧ Q (.bl (decide (k ∈ L.map (·.2)))) H
theorem op_inT (hu : X.A.units + 20 < cLine) : OpR X (compareOp .In) (rInT X.K) := by
  intro pins s σ H x y v u Q I rx ry h
  obtain ⟨b, a, k, L, rfl, rfl, hb, ha, hL, q⟩ := h
  obtain rfl : v = Value.ref b := rx
  obtain rfl : u = Value.ref a := ry
  obtain ⟨es, ep, t, R, _⟩ := (setO_get I ha).full fun p hp => I.isT (hL p hp)
  exact in_set R (I.isT hb) hu fun n => ⟨.bl _, H, I.tok _, rfl, q⟩
/-- s.add(k) -/
def rAddT (K : PySem.W.Frag) : V → List V → Hp → VK → Prop := fun x xs H Q => ∃ (b a : Addr) (k : List Int) (L : List (Addr × List Int)), x = V.ref a ∧ xs = [.ref b] ∧ SqT K H b (k.map V.int) ∧ H a = some (SetO a L) ∧ (∀ p ∈ L, SqT K H p.1 (p.2.map V.int)) ∧ L.length < 300 ∧
  ∀ L', (k ∈ L.map (·.2) → L' = L) → (k ∉ L.map (·.2) → L'.Perm ((b, k) :: L)) → Q .non (upd H a (SetO a L'))
theorem mt_addT (hu : X.A.units + 20 < cLine) : MtR X "set.add" (rAddT X.K) := by
  intro pins s σ H x xs v us Q I rx rxs h
  obtain ⟨b, a, k, L, rfl, rfl, hb, ha, hL, hl, q⟩ := h
  obtain rfl : v = Value.ref a := rx
  cases rxs with
  | cons ry rt =>
    cases rt
    obtain rfl := ry
    obtain ⟨es, ep, t, R, mk⟩ := (setO_get I ha).full fun p hp => I.isT (hL p hp)
    refine add_set R mk (I.isT hb) hu hl fun n h' L' es' ep' t' sb R' mk' c1 c2 => ?_
    have new : TS0 X.prog X.w h' a L' := R'.t0 mk'
    exact ⟨.non, upd H a (SetO a L'), I.write (e := a) (t' := n) (by rw [ha]; trivial) (.inl rfl) (fun b u hb hu => (sb.2 b hb).trans hu) new.has (setO_new new), rfl, q L' c1 c2⟩
end
end SB
set_option Elab.async false
set_option linter.all false
set_option maxRecDepth 100000
set_option maxHeartbeats 4000000
/-! s.add(x), read. -/
namespace SB
open PySem PySem.Spec PyProof.Rows L2
section
variable {X : Cx} {o e : Expr} {es : List Expr} {to : TE} {t : TA} {apos cpos : Pos}
theorem TS0.typeIs {P : Program} {w : World} {s : Shared} {a : Addr} {L : List (Addr × List Int)} (R : TS0 P w s.heap a L) : s.TypeIs (.ref a) "set" := by
  obtain ⟨es, ep, t, ⟨o, ho, hc, _⟩, _⟩ := R.ex
  exact ⟨o, ho, hc.1⟩
theorem TS0.noDict {P : Program} {w : World} {s : Shared} {a : Addr} {L : List (Addr × List Int)} (R : TS0 P w s.heap a L) : ∀ b, Value.ref a = .ref b → ∃ ob, s.heap.get? b = some ob ∧ ob.dict = none := fun b e => by
  injection e with e
  subst e
  obtain ⟨es, ep, t, ⟨o, ho, hc, _⟩, _⟩ := R.ex
  exact ⟨o, ho, hc.2.1⟩
def tAddT (K : PySem.W.Frag) (to : TE) (t : TA) : TE := fun σ H Q => to σ H fun x H1 => (∃ a L, x = V.ref a ∧ H1 a = some (SetO a L)) ∧ t σ H1 fun xs H2 => rAddT K x xs H2 Q
theorem pe_addT (hu : X.A.units + 20 < cLine) (ho : PE X o to) (ha : PA X (e :: es) t)
    (hbase : attributeBase o "add" X.env (eval o X.env) = eval o X.env := by rfl)
    (hfew : ((backTo cpos (starEach (e :: es) X.env)).all (fun x => !x.1) && (backToKw cpos (keywordEach [] X.env)).all (fun x => x.1.isSome)
      && decide ((e :: es).length + ([] : List Keyword).length + (if ([] : List Keyword).isEmpty then 0 else 1) < 30)) = true := by rfl)
    (hline : (apos.endLine == cpos.line) = true := by rfl) (hs : starEach (e :: es) X.env = (false, eval e X.env) :: starEach es X.env := by rfl) (hplain : (backTo cpos (starEach es X.env)).any (·.1) = false := by rfl) :
    PE X (.Call (.Attribute o "add" apos) (e :: es) [] cpos) (tAddT X.K to t) := by
  refine ⟨fun pins s σ H Q I h => ?_⟩
  refine wpAny_Call_method_late hbase hfew hline rfl (thn (ho.run pins s σ H _ I h) fun v s1 ⟨x, H1, I1, r1, ty, q1⟩ => ?_)
  obtain ⟨a, L, rfl, hka⟩ := ty
  have hS := setO_get I1 hka
  cases r1
  refine ⟨"set", "set.add", F.plainAttrs_set, F.slot_set_add, F.type_set_add, hS.typeIs, hS.noDict, ?_⟩
  have hA := ha.run cpos pins s1 σ H1 _ I1 q1
  rw [hs] at hA ⊢
  refine Calls.callWith_builtin (by show (false || (backTo cpos (starEach es X.env)).any (·.1)) = false; rw [hplain] <;> rfl) (Calls.evalArgs_plain ?_)
  exact thn hA fun us s2 ⟨vs, H2, I2, r2, q2⟩ => mt_addT hu pins s2 σ H2 (.ref a) vs (.ref a) us Q I2 rfl r2 q2
end
end SB
set_option Elab.async false
set_option linter.all false
set_option maxRecDepth 100000
set_option maxHeartbeats 4000000
/-! Plain data over the abstract heap: what stands for a datum, trees of objects that may change, environments. -/
namespace Dat
open PySem PySem.Spec PyProof.Rows L2

abbrev MS := Addr → Prop
/-- the written part, the program, the world -/
structure KW where
  k : PySem.W.Frag
  P : Program
  w : World
instance : Coe KW PySem.W.Frag := ⟨KW.k⟩
abbrev _root_.L2.Cx.kw (X : Cx) : KW := ⟨X.K, X.prog, X.w⟩
/-- the script, as a datum of its own kind -/
def scrD (ns : List Int) : PyData := .dict (ns.map fun n => (.int n, .none))

mutual
inductive Rp (K : KW) (M : MS) (H : Hp) : V → PyData → Prop
  | non : Rp K M H .non .none
  | bl (b : Bool) : Rp K M H (.bl b) (.bool b)
  | int (i : Int) : Rp K M H (.int i) (.int i)
  | str (x : Str) : Rp K M H (.str x) (.str x)
  | lst {a : Addr} {xs : List V} {ds : List PyData} : ¬ M a → H a = some (.lst xs) → RpAll K M H xs ds → Rp K M H (.ref a) (.list ds)
  | tup {a : Addr} {xs : List V} {ds : List PyData} : SqT K H a xs → RpAll K M H xs ds → Rp K M H (.ref a) (.tuple ds)
  | scr {a : Addr} {ns : List Int} {kvs : List (PyData × PyData)} : kvs = (ns.map fun n => (.int n, .none)) → ((¬ M a ∧ Rd H a (.lst (ns.map V.int))) ∨ ∀ H', SqL K H' a (ns.map V.int)) → Rp K M H (.ref a) (.dict kvs)
  /-- an exception: its class, its fields -/
  | exc {a : Addr} {oe : Obj} {u : HO} {c : Str} {fs : List (Str × PyData)} {vs : List V} {kvs : List (PyData × PyData)} : kvs = (.str c, .none) :: fs.map (fun p => (.str p.1, p.2)) → H a = some (.frz oe u) → (oe.cls = .ref (He.ga K.k c) ∧ ∃ fv, oe.data = .fields fv) → ((fs = [] ∧ oe.dict = none) ∨ ∃ dd, oe.dict = some dd ∧ H dd = some (.xd ((fs.map (·.1)).zip vs))) → RpAll K M H vs (fs.map (·.2)) → Rp K M H (.ref a) (.dict kvs)
  /-- an instance that stays as it is: its class, its fields -/
  | ins {a dx : Addr} {c : Str} {fs : List (Str × PyData)} {vs : List V} {kvs : List (PyData × PyData)} : kvs = (.str c, .bool true) :: fs.map (fun p => (.str p.1, p.2)) → ¬ M a → H a = some (.ins (He.ga K.k c) dx ((fs.map (·.1)).zip vs)) → RpAll K M H vs (fs.map (·.2)) → Rp K M H (.ref a) (.dict kvs)
inductive RpAll (K : KW) (M : MS) (H : Hp) : List V → List PyData → Prop
  | nil : RpAll K M H [] []
  | cons {v : V} {vs : List V} {d : PyData} {ds : List PyData} : Rp K M H v d → RpAll K M H vs ds → RpAll K M H (v :: vs) (d :: ds)
end
/-- what may not change stays -/
structure Stp (M : MS) (H : Hp) (M' : MS) (H' : Hp) : Prop where
  m : ∀ a, M' a → M a ∨ H a = none
  h : ∀ a o, ¬ M a → H a = some o → H' a = some o
theorem Stp.refl (M : MS) (H : Hp) : Stp M H M H := ⟨fun _ h => .inl h, fun _ _ _ h => h⟩
theorem Stp.same {M : MS} {H H' : Hp} (s : Same H H') : Stp M H M H' := ⟨fun _ h => .inl h, fun a o _ e => s a o e⟩
theorem Stp.not {M M' : MS} {H H' : Hp} (g : Stp M H M' H') {a : Addr} {o : HO} (n : ¬ M a) (e : H a = some o) : ¬ M' a := fun h => by
  rcases g.m a h with q | q
  · exact n q
  · rw [q] at e
    cases e
theorem Stp.trans {M M1 M2 : MS} {H H1 H2 : Hp} (a : Stp M H M1 H1) (b : Stp M1 H1 M2 H2) : Stp M H M2 H2 := by
  refine ⟨fun x h => ?_, fun x o n e => b.h x o (a.not n e) (a.h x o n e)⟩
  rcases b.m x h with h1 | h1
  · exact a.m x h1
  · by_cases hm : M x
    · exact .inl hm
    · cases e : H x with
      | none => exact .inr rfl
      | some o =>
        rw [a.h x o hm e] at h1
        cases h1
theorem notM {M : MS} {H : Hp} (ml : ∀ a, M a → Mut (H a)) {a : Addr} {o : HO} (e : H a = some o) (n : ¬ Mut (some o)) : ¬ M a := fun h => n (by rw [← e]; exact ml a h)
theorem SqT.stp {K : KW} {M M' : MS} {H H' : Hp} (ml : ∀ a, M a → Mut (H a)) (g : Stp M H M' H') {a : Addr} {xs : List V} (h : SqT K H a xs) : SqT K H' a xs := by
  rcases h with (h | ⟨o, h⟩) | h
  · exact .inl (.inl (g.h a _ (notM ml h id) h))
  · exact .inl (.inr ⟨o, g.h a _ (notM ml h id) h⟩)
  · exact .inr h
mutual
theorem Rp.stp1 {K : KW} {M M' : MS} {H H' : Hp} (ml : ∀ a, M a → Mut (H a)) (g : Stp M H M' H') : ∀ {d : PyData} {v : V}, Rp K M H v d → Rp K M' H' v d
  | _, _, .non => .non
  | _, _, .bl b => .bl b
  | _, _, .int i => .int i
  | _, _, .str x => .str x
  | _, _, .lst n e ha => .lst (g.not n e) (g.h _ _ n e) (RpAll.stp1 ml g ha)
  | _, _, .tup e ha => .tup (SqT.stp ml g e) (RpAll.stp1 ml g ha)
  | _, _, .scr e q => .scr e (by
      rcases q with ⟨n, q | ⟨o, q⟩⟩ | q
      · exact .inl ⟨g.not n q, .inl (g.h _ _ n q)⟩
      · exact .inl ⟨g.not n q, .inr ⟨o, g.h _ _ n q⟩⟩
      · exact .inr q)
  | _, _, .exc e h1 h2 h3 ha => .exc e (g.h _ _ (notM ml h1 id) h1) h2 (h3.imp_right fun ⟨dd, e1, e2⟩ => ⟨dd, e1, g.h _ _ (notM ml e2 id) e2⟩) (RpAll.stp1 ml g ha)
  | _, _, .ins e n h1 ha => .ins e (g.not n h1) (g.h _ _ n h1) (RpAll.stp1 ml g ha)
theorem RpAll.stp1 {K : KW} {M M' : MS} {H H' : Hp} (ml : ∀ a, M a → Mut (H a)) (g : Stp M H M' H') : ∀ {ds : List PyData} {vs : List V}, RpAll K M H vs ds → RpAll K M' H' vs ds
  | _, _, .nil => .nil
  | _, _, .cons h1 h2 => .cons (Rp.stp1 ml g h1) (RpAll.stp1 ml g h2)
end
theorem Rp.stp {K : KW} {M M' : MS} {H H' : Hp} (ml : ∀ a, M a → Mut (H a)) (g : Stp M H M' H') (d : PyData) (v : V) (h : Rp K M H v d) : Rp K M' H' v d := Rp.stp1 ml g h
theorem RpAll.stp {K : KW} {M M' : MS} {H H' : Hp} (ml : ∀ a, M a → Mut (H a)) (g : Stp M H M' H') (ds : List PyData) (vs : List V) (h : RpAll K M H vs ds) : RpAll K M' H' vs ds := RpAll.stp1 ml g h
theorem Rp.same {K : KW} {M : MS} {H H' : Hp} (ml : ∀ a, M a → Mut (H a)) (s : Same H H') {d : PyData} {v : V} (h : Rp K M H v d) : Rp K M H' v d := Rp.stp ml (Stp.same s) d v h
theorem RpAll.same {K : KW} {M : MS} {H H' : Hp} (ml : ∀ a, M a → Mut (H a)) (s : Same H H') {ds : List PyData} {vs : List V} (h : RpAll K M H vs ds) : RpAll K M H' vs ds := RpAll.stp ml (Stp.same s) ds vs h
mutual
/-- fewer addresses are kept away -/
theorem Rp.less1 {K : KW} {M M' : MS} {H : Hp} (s : ∀ a, M' a → M a) : ∀ {d : PyData} {v : V}, Rp K M H v d → Rp K M' H v d
  | _, _, .non => .non
  | _, _, .bl b => .bl b
  | _, _, .int i => .int i
  | _, _, .str x => .str x
  | _, _, .lst n e ha => .lst (fun q => n (s _ q)) e (RpAll.less1 s ha)
  | _, _, .tup e ha => .tup e (RpAll.less1 s ha)
  | _, _, .scr e q => .scr e (by
      rcases q with ⟨n, q⟩ | q
      · exact .inl ⟨fun z => n (s _ z), q⟩
      · exact .inr q)
  | _, _, .exc e h1 h2 h3 ha => .exc e h1 h2 h3 (RpAll.less1 s ha)
  | _, _, .ins e n h1 ha => .ins e (fun q => n (s _ q)) h1 (RpAll.less1 s ha)
theorem RpAll.less1 {K : KW} {M M' : MS} {H : Hp} (s : ∀ a, M' a → M a) : ∀ {ds : List PyData} {vs : List V}, RpAll K M H vs ds → RpAll K M' H vs ds
  | _, _, .nil => .nil
  | _, _, .cons h1 h2 => .cons (Rp.less1 s h1) (RpAll.less1 s h2)
end
theorem Rp.less {K : KW} {M M' : MS} {H : Hp} (s : ∀ a, M' a → M a) (d : PyData) (v : V) (h : Rp K M H v d) : Rp K M' H v d := Rp.less1 s h
theorem RpAll.less {K : KW} {M M' : MS} {H : Hp} (s : ∀ a, M' a → M a) (ds : List PyData) (vs : List V) (h : RpAll K M H vs ds) : RpAll K M' H vs ds := RpAll.less1 s h
mutual
theorem Rp.dp {K : KW} {M : MS} {H : Hp} : ∀ (d : PyData) (v : V), d.hasDict = false → Rp K M H v d → Dp K H v d
  | .none, _, _, h => by cases h; exact .non
  | .bool b, _, _, h => by cases h; exact .bl b
  | .int i, _, _, h => by cases h; exact .int i
  | .str x, _, _, h => by cases h; exact .str x
  | .list ds, _, q, h => by
    cases h with
    | lst n e ha => exact .lst (SqL.of e) (RpAll.dp ds _ (by simpa [PyData.hasDict] using q) ha)
  | .tuple ds, _, q, h => by
    cases h with
    | tup e ha => exact .tup e (RpAll.dp ds _ (by simpa [PyData.hasDict] using q) ha)
  | .dict kvs, _, q, h => by simp [PyData.hasDict] at q
theorem RpAll.dp {K : KW} {M : MS} {H : Hp} : ∀ (ds : List PyData) (vs : List V), PyData.hasDictAll ds = false → RpAll K M H vs ds → DpAll K H vs ds
  | [], _, _, h => by cases h; exact .nil
  | d :: ds, _, q, h => by
    cases h with
    | cons h1 h2 =>
      have q' : d.hasDict = false ∧ PyData.hasDictAll ds = false := by simpa [PyData.hasDictAll] using q
      exact .cons (Rp.dp d _ q'.1 h1) (RpAll.dp ds _ q'.2 h2)
end
theorem RpAll.length {K : KW} {M : MS} {H : Hp} : ∀ {vs : List V} {ds : List PyData}, RpAll K M H vs ds → vs.length = ds.length
  | _, [], .nil => rfl
  | _, d :: ds, .cons _ h => by rw [List.length_cons, List.length_cons, RpAll.length h]
theorem RpAll.get {K : KW} {M : MS} {H : Hp} : ∀ {ds : List PyData} {vs : List V} {i : Nat} {d : PyData}, RpAll K M H vs ds → ds[i]? = some d → ∃ v, vs[i]? = some v ∧ Rp K M H v d
  | [], _, _, _, .nil, e => by simp at e
  | d :: ds, _, 0, _, .cons h _, e => by simp at e; subst e; exact ⟨_, rfl, h⟩
  | d :: ds, _, i + 1, _, .cons _ h, e => by
    obtain ⟨v, h1, h2⟩ := RpAll.get (i := i) h (by simpa using e)
    exact ⟨v, by simpa using h1, h2⟩
theorem RpAll.getv {K : KW} {M : MS} {H : Hp} : ∀ {ds : List PyData} {vs : List V} {i : Nat} {v : V}, RpAll K M H vs ds → vs[i]? = some v → ∃ d, ds[i]? = some d ∧ Rp K M H v d
  | [], _, _, _, .nil, e => by simp at e
  | d :: ds, _, 0, _, .cons h _, e => by simp at e; subst e; exact ⟨_, rfl, h⟩
  | d :: ds, _, i + 1, _, .cons _ h, e => by
    obtain ⟨v, h1, h2⟩ := RpAll.getv (i := i) h (by simpa using e)
    exact ⟨v, by simpa using h1, h2⟩
theorem RpAll.append {K : KW} {M : MS} {H : Hp} : ∀ {ds es : List PyData} {vs us : List V}, RpAll K M H vs ds → RpAll K M H us es → RpAll K M H (vs ++ us) (ds ++ es)
  | [], _, _, _, .nil, h => h
  | _ :: _, _, _, _, .cons h1 h2, h => .cons h1 (RpAll.append h2 h)
theorem RpAll.set {K : KW} {M : MS} {H : Hp} {v : V} {d : PyData} (r : Rp K M H v d) : ∀ {ds : List PyData} {vs : List V} (i : Nat), RpAll K M H vs ds → RpAll K M H (vs.set i v) (ds.set i d)
  | [], _, _, .nil => .nil
  | _ :: _, _, 0, .cons _ h => .cons r h
  | _ :: _, _, i + 1, .cons q h => .cons q (RpAll.set r i h)
theorem RpAll.take {K : KW} {M : MS} {H : Hp} : ∀ {ds : List PyData} {vs : List V} (n : Nat), RpAll K M H vs ds → RpAll K M H (vs.take n) (ds.take n)
  | _, _, 0, _ => by rw [List.take_zero, List.take_zero]; exact .nil
  | [], _, _ + 1, .nil => .nil
  | _ :: _, _, n + 1, .cons q h => .cons q (RpAll.take n h)
theorem RpAll.drop {K : KW} {M : MS} {H : Hp} : ∀ {ds : List PyData} {vs : List V} (n : Nat), RpAll K M H vs ds → RpAll K M H (vs.drop n) (ds.drop n)
  | _, _, 0, h => h
  | [], _, _ + 1, .nil => .nil
  | _ :: _, _, n + 1, .cons _ h => RpAll.drop n h
theorem RpAll.reverse {K : KW} {M : MS} {H : Hp} : ∀ {ds : List PyData} {vs : List V}, RpAll K M H vs ds → RpAll K M H vs.reverse ds.reverse
  | [], _, .nil => .nil
  | d :: ds, v :: vs, .cons q h => by
    rw [List.reverse_cons, List.reverse_cons]
    exact (RpAll.reverse h).append (.cons q .nil)
theorem same_new {H : Hp} {p : Addr} {o : HO} (h : H p = none) : Same H (upd H p o) := fun b x e => by
  rw [upd_ne (ne_of_none e h)]
  exact e

/-! ### trees of objects that may change -/
inductive T where
  /-- a datum -/
  | d (x : PyData)
  /-- a list of data -/
  | l (xs : List PyData)
  /-- a set of tuples of ints -/
  | s (ks : List (List Int))
  /-- a dict: keys and values are data -/
  | m (kvs : List (PyData × PyData))
  /-- a tuple, a list of trees -/
  | t (ts : List T)
  | ls (ts : List T)
  /-- a dict whose keys are tuples, nested ones too; its values are data -/
  | n (kvs : List (PyData × PyData))
  /-- the same, its values are trees -/
  | nt (ks : List PyData) (ts : List T)
mutual
/-- a datum as a key -/
def nk : PyData → Option NestedKey
  | .none => some .none
  | .bool b => some (.num (if b = true then 1 else 0))
  | .int i => some (.num i)
  | .str x => some (.text x)
  | .tuple ds => (nkAll ds).map .tup
  | _ => none
def nkAll : List PyData → Option (List NestedKey)
  | [] => some []
  | d :: ds => match nk d, nkAll ds with
    | some k, some ks => some (k :: ks)
    | _, _ => none
end
/-- a dict at p: its keys, where their tuples stand, its values -/
def DNO (P : Program) (w : World) (p : Addr) (L : List (NestedKey × Addr × V)) : HO := .ext fun h => (p == sysModules) = false ∧ ∃ xs : List (NestedKey × Addr × Value), Paired (fun (q : NestedKey × Addr × V) (x : NestedKey × Addr × Value) => q.1 = x.1 ∧ q.2.1 = x.2.1 ∧ RelV q.2.2 x.2.2) L xs ∧
  ∃ o es ep, h.get? p = some o ∧ o.ExactDict ∧ o.data = .dict es ep ∧ es.toList = xs.map (entryOfKey (nestedKind P w)) ∧ (xs.map (·.1)).Nodup
def NDict (K : KW) (M : MS) (H : Hp) (p : Addr) (kvs : List (PyData × PyData)) : Prop := ∃ L : List (NestedKey × Addr × V), H p = some (DNO K.P K.w p L) ∧ RpAll K M H (L.map fun q => V.ref q.2.1) (kvs.map (·.1)) ∧ (kvs.map fun p => nk p.1) = L.map (fun q => some q.1) ∧ (∀ q ∈ L, q.1.depth ≤ 8) ∧ RpAll K M H (L.map (·.2.2)) (kvs.map (·.2))
theorem NDict.stp {K : KW} {M M' : MS} {H H' : Hp} (ml : ∀ a, M a → Mut (H a)) (g : Stp M H M' H') {p : Addr} {kvs : List (PyData × PyData)} (e : H' p = H p) (h : NDict K M H p kvs) : NDict K M' H' p kvs := by
  obtain ⟨L, h1, h2, h3, h4, h5⟩ := h
  exact ⟨L, e.trans h1, RpAll.stp ml g _ _ h2, h3, h4, RpAll.stp ml g _ _ h5⟩
theorem NDict.less {K : KW} {M M' : MS} {H : Hp} (s : ∀ a, M' a → M a) {p : Addr} {kvs : List (PyData × PyData)} (h : NDict K M H p kvs) : NDict K M' H p kvs := by
  obtain ⟨L, h1, h2, h3, h4, h5⟩ := h
  exact ⟨L, h1, RpAll.less s _ _ h2, h3, h4, RpAll.less s _ _ h5⟩
def NKeys (K : KW) (M : MS) (H : Hp) (p : Addr) (ks : List PyData) (vs : List V) : Prop := ∃ L : List (NestedKey × Addr × V), H p = some (DNO K.P K.w p L) ∧ RpAll K M H (L.map fun q => V.ref q.2.1) ks ∧ ks.map nk = L.map (fun q => some q.1) ∧ (∀ q ∈ L, q.1.depth ≤ 8) ∧ L.map (·.2.2) = vs
theorem NKeys.stp {K : KW} {M M' : MS} {H H' : Hp} (ml : ∀ a, M a → Mut (H a)) (g : Stp M H M' H') {p : Addr} {ks : List PyData} {vs : List V} (e : H' p = H p) (h : NKeys K M H p ks vs) : NKeys K M' H' p ks vs := by
  obtain ⟨L, h1, h2, h3, h4, h5⟩ := h
  exact ⟨L, e.trans h1, RpAll.stp ml g _ _ h2, h3, h4, h5⟩
theorem NKeys.less {K : KW} {M M' : MS} {H : Hp} (s : ∀ a, M' a → M a) {p : Addr} {ks : List PyData} {vs : List V} (h : NKeys K M H p ks vs) : NKeys K M' H p ks vs := by
  obtain ⟨L, h1, h2, h3, h4, h5⟩ := h
  exact ⟨L, h1, RpAll.less s _ _ h2, h3, h4, h5⟩
def SetAt (K : KW) (H : Hp) (p : Addr) (ks : List (List Int)) : Prop := ∃ L : List (Addr × List Int), H p = some (SB.SetO p L) ∧ (∀ q ∈ L, SqT K H q.1 (q.2.map V.int)) ∧ (L.map (·.2)).Perm ks
def keyD : Key → PyData
  | .inl i => .int i
  | .inr x => .str x
inductive DictAt (K : KW) (M : MS) (H : Hp) (p : Addr) : List (PyData × PyData) → Prop
  | k {ks : List Key} {vs : List V} {xs : List PyData} : H p = some (.dK (ks.zip vs)) → ks.length = vs.length → RpAll K M H vs xs → DictAt K M H p ((ks.map keyD).zip xs)
mutual
/-- v stands for a tree; the addresses of its objects -/
inductive RT (K : KW) (M : MS) (H : Hp) : V → T → List Addr → Prop
  | d {v : V} {x : PyData} : Rp K M H v x → RT K M H v (.d x) []
  | l {p : Addr} {vs : List V} {xs : List PyData} : M p → H p = some (.lst vs) → RpAll K M H vs xs → RT K M H (.ref p) (.l xs) [p]
  | s {p : Addr} {ks : List (List Int)} : M p → SetAt K H p ks → RT K M H (.ref p) (.s ks) [p]
  | m {p : Addr} {kvs : List (PyData × PyData)} : M p → DictAt K M H p kvs → RT K M H (.ref p) (.m kvs) [p]
  | t {p : Addr} {vs : List V} {ts : List T} {fp : List Addr} : SqT K H p vs → RTs K M H vs ts fp → RT K M H (.ref p) (.t ts) fp
  | ls {p : Addr} {vs : List V} {ts : List T} {fp : List Addr} : M p → H p = some (.lst vs) → RTs K M H vs ts fp → RT K M H (.ref p) (.ls ts) (p :: fp)
  | n {p : Addr} {kvs : List (PyData × PyData)} : M p → NDict K M H p kvs → RT K M H (.ref p) (.n kvs) [p]
  | nt {p : Addr} {ks : List PyData} {vs : List V} {ts : List T} {fp : List Addr} : M p → NKeys K M H p ks vs → RTs K M H vs ts fp → RT K M H (.ref p) (.nt ks ts) (p :: fp)
inductive RTs (K : KW) (M : MS) (H : Hp) : List V → List T → List Addr → Prop
  | nil : RTs K M H [] [] []
  | cons {v : V} {vs : List V} {t : T} {ts : List T} {fp fq : List Addr} : RT K M H v t fp → RTs K M H vs ts fq → RTs K M H (v :: vs) (t :: ts) (fp ++ fq)
end
theorem SetAt.stp {K : KW} {M M' : MS} {H H' : Hp} (ml : ∀ a, M a → Mut (H a)) (g : Stp M H M' H') {p : Addr} {ks : List (List Int)} (e : H' p = H p) (h : SetAt K H p ks) : SetAt K H' p ks := by
  obtain ⟨L, h1, h2, h3⟩ := h
  exact ⟨L, e.trans h1, fun q hq => SqT.stp ml g (h2 q hq), h3⟩
theorem DictAt.stp {K : KW} {M M' : MS} {H H' : Hp} (ml : ∀ a, M a → Mut (H a)) (g : Stp M H M' H') {p : Addr} {kvs : List (PyData × PyData)} (e : H' p = H p) (h : DictAt K M H p kvs) : DictAt K M' H' p kvs := by
  cases h with
  | k h1 h2 h3 => exact .k (e.trans h1) h2 (RpAll.stp ml g _ _ h3)
theorem DictAt.less {K : KW} {M M' : MS} {H : Hp} (s : ∀ a, M' a → M a) {p : Addr} {kvs : List (PyData × PyData)} (h : DictAt K M H p kvs) : DictAt K M' H p kvs := by
  cases h with
  | k h1 h2 h3 => exact .k h1 h2 (RpAll.less s _ _ h3)
mutual
theorem RT.stp {K : KW} {M M' : MS} {H H' : Hp} (ml : ∀ a, M a → Mut (H a)) (g : Stp M H M' H') : ∀ {v : V} {t : T} {fp : List Addr}, RT K M H v t fp → (∀ a ∈ fp, M' a ∧ H' a = H a) → RT K M' H' v t fp
  | _, _, _, .d r, _ => .d (Rp.stp ml g _ _ r)
  | _, _, _, .l hm e r, k => .l (k _ List.mem_cons_self).1 ((k _ List.mem_cons_self).2.trans e) (RpAll.stp ml g _ _ r)
  | _, _, _, .s hm r, k => .s (k _ List.mem_cons_self).1 (r.stp ml g (k _ List.mem_cons_self).2)
  | _, _, _, .m hm r, k => .m (k _ List.mem_cons_self).1 (r.stp ml g (k _ List.mem_cons_self).2)
  | _, _, _, .n hm r, k => .n (k _ List.mem_cons_self).1 (r.stp ml g (k _ List.mem_cons_self).2)
  | _, _, _, .t e r, k => .t (SqT.stp ml g e) (RTs.stp ml g r k)
  | _, _, _, .ls hm e r, k => .ls (k _ List.mem_cons_self).1 ((k _ List.mem_cons_self).2.trans e) (RTs.stp ml g r fun a ha => k a (List.mem_cons_of_mem _ ha))
  | _, _, _, .nt hm e r, k => .nt (k _ List.mem_cons_self).1 (e.stp ml g (k _ List.mem_cons_self).2) (RTs.stp ml g r fun a ha => k a (List.mem_cons_of_mem _ ha))
theorem RTs.stp {K : KW} {M M' : MS} {H H' : Hp} (ml : ∀ a, M a → Mut (H a)) (g : Stp M H M' H') : ∀ {vs : List V} {ts : List T} {fp : List Addr}, RTs K M H vs ts fp → (∀ a ∈ fp, M' a ∧ H' a = H a) → RTs K M' H' vs ts fp
  | _, _, _, .nil, _ => .nil
  | _, _, _, .cons r rs, k => .cons (RT.stp ml g r fun a ha => k a (List.mem_append_left _ ha)) (RTs.stp ml g rs fun a ha => k a (List.mem_append_right _ ha))
end
mutual
theorem RT.mem {K : KW} {M : MS} {H : Hp} : ∀ {v : V} {t : T} {fp : List Addr}, RT K M H v t fp → ∀ a ∈ fp, M a
  | _, _, _, .d r, _, h => by cases h
  | _, _, _, .l hm e r, a, h => by rw [List.mem_singleton] at h; subst h; exact hm
  | _, _, _, .s hm r, a, h => by rw [List.mem_singleton] at h; subst h; exact hm
  | _, _, _, .m hm r, a, h => by rw [List.mem_singleton] at h; subst h; exact hm
  | _, _, _, .n hm r, a, h => by rw [List.mem_singleton] at h; subst h; exact hm
  | _, _, _, .t e r, a, h => RTs.mem r a h
  | _, _, _, .ls hm e r, a, h => by
    rcases List.mem_cons.mp h with rfl | h
    · exact hm
    · exact RTs.mem r a h
  | _, _, _, .nt hm e r, a, h => by
    rcases List.mem_cons.mp h with rfl | h
    · exact hm
    · exact RTs.mem r a h
theorem RTs.mem {K : KW} {M : MS} {H : Hp} : ∀ {vs : List V} {ts : List T} {fp : List Addr}, RTs K M H vs ts fp → ∀ a ∈ fp, M a
  | _, _, _, .nil, _, h => by cases h
  | _, _, _, .cons r rs, a, h => by
    rcases List.mem_append.mp h with h | h
    · exact RT.mem r a h
    · exact RTs.mem rs a h
end
mutual
theorem RT.less {K : KW} {M M' : MS} {H : Hp} (s : ∀ a, M' a → M a) : ∀ {v : V} {t : T} {fp : List Addr}, RT K M H v t fp → (∀ a ∈ fp, M' a) → RT K M' H v t fp
  | _, _, _, .d r, _ => .d (Rp.less s _ _ r)
  | _, _, _, .l hm e r, k => .l (k _ List.mem_cons_self) e (RpAll.less s _ _ r)
  | _, _, _, .s hm r, k => .s (k _ List.mem_cons_self) r
  | _, _, _, .m hm r, k => .m (k _ List.mem_cons_self) (r.less s)
  | _, _, _, .n hm r, k => .n (k _ List.mem_cons_self) (r.less s)
  | _, _, _, .t e r, k => .t e (RTs.less s r k)
  | _, _, _, .ls hm e r, k => .ls (k _ List.mem_cons_self) e (RTs.less s r fun a ha => k a (List.mem_cons_of_mem _ ha))
  | _, _, _, .nt hm e r, k => .nt (k _ List.mem_cons_self) (e.less s) (RTs.less s r fun a ha => k a (List.mem_cons_of_mem _ ha))
theorem RTs.less {K : KW} {M M' : MS} {H : Hp} (s : ∀ a, M' a → M a) : ∀ {vs : List V} {ts : List T} {fp : List Addr}, RTs K M H vs ts fp → (∀ a ∈ fp, M' a) → RTs K M' H vs ts fp
  | _, _, _, .nil, _ => .nil
  | _, _, _, .cons r rs, k => .cons (RT.less s r fun a ha => k a (List.mem_append_left _ ha)) (RTs.less s rs fun a ha => k a (List.mem_append_right _ ha))
end
theorem RTs.length {K : KW} {M : MS} {H : Hp} : ∀ {vs : List V} {ts : List T} {fp : List Addr}, RTs K M H vs ts fp → vs.length = ts.length
  | _, _, _, .nil => rfl
  | _, _, _, .cons _ rs => by rw [List.length_cons, List.length_cons, rs.length]
theorem RTs.append {K : KW} {M : MS} {H : Hp} : ∀ {vs us : List V} {ts ss : List T} {fp fq : List Addr}, RTs K M H vs ts fp → RTs K M H us ss fq → RTs K M H (vs ++ us) (ts ++ ss) (fp ++ fq)
  | _, _, _, _, _, _, .nil, h => h
  | _, _, _, _, _, _, .cons r rs, h => by
    rw [List.append_assoc]
    exact .cons r (RTs.append rs h)
mutual
/-- a tree as a datum, where it is one -/
def T.data : T → Option PyData
  | .d x => some x
  | .l xs => some (.list xs)
  | .s _ => none
  | .m _ => none
  | .n _ => none
  | .nt _ _ => none
  | .t ts => (T.datas ts).map .tuple
  | .ls ts => (T.datas ts).map .list
def T.datas : List T → Option (List PyData)
  | [] => some []
  | u :: us => match T.data u, T.datas us with
    | some x, some xs => some (x :: xs)
    | _, _ => none
end
mutual
theorem RT.froze {K : KW} {M M' : MS} {H : Hp} (s : ∀ a, M' a → M a) : ∀ {v : V} {t : T} {fp : List Addr} {x : PyData}, RT K M H v t fp → t.data = some x → (∀ a ∈ fp, ¬ M' a) → Rp K M' H v x
  | _, _, _, _, .d r, e, _ => by cases e; exact Rp.less s _ _ r
  | _, _, _, _, .l hm q r, e, k => by cases e; exact .lst (k _ List.mem_cons_self) q (RpAll.less s _ _ r)
  | _, _, _, _, .s hm r, e, k => by cases e
  | _, _, _, _, .m hm r, e, k => by cases e
  | _, _, _, _, .n hm r, e, k => by cases e
  | _, _, _, _, .nt hm r q, e, k => by cases e
  | _, _, _, _, .t q r, e, k => by
    unfold T.data at e
    obtain ⟨xs, e1, e2⟩ := Option.map_eq_some_iff.mp e
    subst e2
    exact .tup q (RTs.froze s r e1 k)
  | _, _, _, _, .ls hm q r, e, k => by
    unfold T.data at e
    obtain ⟨xs, e1, e2⟩ := Option.map_eq_some_iff.mp e
    subst e2
    exact .lst (k _ List.mem_cons_self) q (RTs.froze s r e1 fun a ha => k a (List.mem_cons_of_mem _ ha))
theorem RTs.froze {K : KW} {M M' : MS} {H : Hp} (s : ∀ a, M' a → M a) : ∀ {vs : List V} {ts : List T} {fp : List Addr} {xs : List PyData}, RTs K M H vs ts fp → T.datas ts = some xs → (∀ a ∈ fp, ¬ M' a) → RpAll K M' H vs xs
  | _, _, _, _, .nil, e, _ => by cases e; exact .nil
  | _, t :: ts, _, _, .cons r rs, e, k => by
    unfold T.datas at e
    cases e1 : t.data with
    | none => rw [e1] at e; cases e
    | some x =>
      cases e2 : T.datas ts with
      | none => rw [e1, e2] at e; cases e
      | some xs =>
        rw [e1, e2] at e
        cases e
        exact .cons (RT.froze s r e1 fun a ha => k a (List.mem_append_left _ ha)) (RTs.froze s rs e2 fun a ha => k a (List.mem_append_right _ ha))
end
theorem RTs.get {K : KW} {M : MS} {H : Hp} : ∀ {vs : List V} {ts : List T} {fp : List Addr} {i : Nat} {t : T}, RTs K M H vs ts fp → ts[i]? = some t → ∃ v fq, vs[i]? = some v ∧ RT K M H v t fq ∧ ∀ a ∈ fq, a ∈ fp
  | _, _, _, _, _, .nil, e => by simp at e
  | _, _, _, 0, _, .cons r _, e => by simp at e; subst e; exact ⟨_, _, rfl, r, fun a ha => List.mem_append_left _ ha⟩
  | _, _, _, i + 1, _, .cons _ rs, e => by
    obtain ⟨v, fq, h1, h2, h3⟩ := RTs.get (i := i) rs (by simpa using e)
    exact ⟨v, fq, by simpa using h1, h2, fun a ha => List.mem_append_right _ (h3 a ha)⟩
end Dat
set_option Elab.async false
set_option linter.all false
set_option maxRecDepth 100000
set_option maxHeartbeats 4000000
namespace Dat
open PySem PySem.Spec PyProof.Rows L2

/-! ### environments -/
/-- whose a tree is: made here; lent by the caller as parameter i, to be changed; lent to be looked at -/
inductive Md where
  | loc
  | len (i : Nat)
  | ro
/-- the frame: what may not be held by data at the entry, the heap at the entry, what is lent to be changed, the arguments -/
structure Frm where
  M0 : MS
  H0 : Hp
  B : Nat → Addr → Prop
  args : Nat → Option V
def MdOk (F : Frm) : Md → V → List Addr → Prop
  | .loc, _, fp => ∀ a ∈ fp, F.H0 a = none
  | .len i, v, fp => F.args i = some v ∧ ∀ a ∈ fp, F.B i a ∨ F.H0 a = none
  | .ro, _, _ => True
theorem MdOk.chg {F : Frm} {m : Md} {v : V} {fp fq : List Addr} (h : MdOk F m v fp) (s : ∀ a ∈ fq, a ∈ fp ∨ F.H0 a = none) : MdOk F m v fq := by
  cases m with
  | loc => exact fun a ha => (s a ha).elim (h a) id
  | len i => exact ⟨h.1, fun a ha => (s a ha).elim (h.2 a) .inr⟩
  | ro => trivial
inductive Sl where
  /-- a datum -/
  | d (x : PyData)
  /-- a tree of objects that may change -/
  | o (m : Md) (t : T)
abbrev DE := List (Option Sl)
inductive SlR (K : KW) (F : Frm) (M : MS) (H : Hp) : V → Sl → List Addr → Prop
  | d {v : V} {x : PyData} : Rp K M H v x → SlR K F M H v (.d x) []
  | o {v : V} {m : Md} {t : T} {fp : List Addr} : RT K M H v t fp → MdOk F m v fp → SlR K F M H v (.o m t) fp
inductive RpS (K : KW) (F : Frm) (M : MS) (H : Hp) : L2.St → DE → List Addr → Prop
  | nil : RpS K F M H [] [] []
  | skip {o : Option V} {σ : L2.St} {ρ : DE} {A : List Addr} : RpS K F M H σ ρ A → RpS K F M H (o :: σ) (none :: ρ) A
  | cons {v : V} {s : Sl} {fp : List Addr} {σ : L2.St} {ρ : DE} {A : List Addr} : SlR K F M H v s fp → RpS K F M H σ ρ A → RpS K F M H (some v :: σ) (some s :: ρ) (fp ++ A)
section
variable {K : KW} {F : Frm} {M M' : MS} {H H' : Hp} {σ σ' : L2.St} {ρ : DE} {A : List Addr}
theorem SlR.stp {v : V} {s : Sl} {fp : List Addr} (ml : ∀ a, M a → Mut (H a)) (g : Stp M H M' H') (h : SlR K F M H v s fp) (k : ∀ a ∈ fp, M' a ∧ H' a = H a) : SlR K F M' H' v s fp := by
  cases h with
  | d r => exact .d (Rp.stp ml g _ _ r)
  | o r m => exact .o (r.stp ml g k) m
theorem SlR.mem {v : V} {s : Sl} {fp : List Addr} (h : SlR K F M H v s fp) : ∀ a ∈ fp, M a := by
  cases h with
  | d r => intro a ha; cases ha
  | o r m => exact r.mem
theorem SlR.less {v : V} {s : Sl} {fp : List Addr} (g : ∀ a, M' a → M a) (h : SlR K F M H v s fp) (k : ∀ a ∈ fp, M' a) : SlR K F M' H v s fp := by
  cases h with
  | d r => exact .d (Rp.less g _ _ r)
  | o r m => exact .o (r.less g k) m
theorem RpS.stp (ml : ∀ a, M a → Mut (H a)) (g : Stp M H M' H') (h : RpS K F M H σ ρ A) (k : ∀ a ∈ A, M' a ∧ H' a = H a) : RpS K F M' H' σ ρ A := by
  induction h with
  | nil => exact .nil
  | skip _ ih => exact .skip (ih k)
  | cons r _ ih => exact .cons (r.stp ml g fun a ha => k a (List.mem_append_left _ ha)) (ih fun a ha => k a (List.mem_append_right _ ha))
theorem RpS.less (g : ∀ a, M' a → M a) (h : RpS K F M H σ ρ A) (k : ∀ a ∈ A, M' a) : RpS K F M' H σ ρ A := by
  induction h with
  | nil => exact .nil
  | skip _ ih => exact .skip (ih k)
  | cons r _ ih => exact .cons (r.less g fun a ha => k a (List.mem_append_left _ ha)) (ih fun a ha => k a (List.mem_append_right _ ha))
theorem RpS.mem (h : RpS K F M H σ ρ A) : ∀ a ∈ A, M a := by
  induction h with
  | nil => intro a ha; cases ha
  | skip _ ih => exact ih
  | cons r _ ih =>
    intro a ha
    rcases List.mem_append.mp ha with ha | ha
    · exact r.mem a ha
    · exact ih a ha
theorem RpS.len (h : RpS K F M H σ ρ A) : σ.length = ρ.length := by
  induction h with
  | nil => rfl
  | skip _ ih => rw [List.length_cons, List.length_cons, ih]
  | cons _ _ ih => rw [List.length_cons, List.length_cons, ih]
theorem RpS.focus (h : RpS K F M H σ ρ A) : ∀ {i : Nat} {s : Sl}, ρ[i]? = some (some s) → ∃ v fp rest, σ[i]? = some (some v) ∧ SlR K F M H v s fp ∧ RpS K F M H σ (ρ.set i none) rest ∧ A.Perm (fp ++ rest) := by
  induction h with
  | nil => intro i s e; simp at e
  | skip h ih =>
    intro i s e
    cases i with
    | zero => simp at e
    | succ i =>
      obtain ⟨v, fp, rest, h1, h2, h3, h4⟩ := ih (by simpa using e)
      exact ⟨v, fp, rest, by simpa using h1, h2, .skip h3, h4⟩
  | @cons v0 s0 fp0 σ0 ρ0 A0 r h ih =>
    intro i s e
    cases i with
    | zero =>
      simp at e
      subst e
      exact ⟨v0, fp0, A0, rfl, r, .skip h, .refl _⟩
    | succ i =>
      obtain ⟨v, fp, rest, h1, h2, h3, h4⟩ := ih (by simpa using e)
      refine ⟨v, fp, fp0 ++ rest, by simpa using h1, h2, .cons r h3, ?_⟩
      exact ((List.Perm.append_left fp0 h4).trans (by rw [← List.append_assoc, ← List.append_assoc]; exact List.Perm.append_right rest List.perm_append_comm))
theorem RpS.forget (h : RpS K F M H σ ρ A) : ∀ (i : Nat), ∃ A', RpS K F M H σ (ρ.set i none) A' ∧ A'.Sublist A := by
  induction h with
  | nil => intro i; exact ⟨[], .nil, .slnil⟩
  | skip h ih =>
    intro i
    cases i with
    | zero => exact ⟨_, .skip h, List.Sublist.refl _⟩
    | succ i =>
      obtain ⟨A', h1, h2⟩ := ih i
      exact ⟨A', .skip h1, h2⟩
  | @cons v0 s0 fp0 σ0 ρ0 A0 r h ih =>
    intro i
    cases i with
    | zero => exact ⟨A0, .skip h, List.sublist_append_right _ _⟩
    | succ i =>
      obtain ⟨A', h1, h2⟩ := ih i
      exact ⟨fp0 ++ A', .cons r h1, List.Sublist.append_left h2 fp0⟩
theorem RpS.plug {v : V} {s : Sl} {fp : List Addr} (r : SlR K F M H v s fp) (h : RpS K F M H σ ρ A) : ∀ {i : Nat}, ρ[i]? = some none → ∃ A', RpS K F M H (σ.set i (some v)) (ρ.set i (some s)) A' ∧ A'.Perm (fp ++ A) := by
  induction h with
  | nil => intro i e; simp at e
  | skip h ih =>
    intro i e
    cases i with
    | zero => exact ⟨_, .cons r h, .refl _⟩
    | succ i =>
      obtain ⟨A', h1, h2⟩ := ih (i := i) (by simpa using e)
      exact ⟨A', .skip h1, h2⟩
  | @cons v0 s0 fp0 σ0 ρ0 A0 r0 h ih =>
    intro i e
    cases i with
    | zero => simp at e
    | succ i =>
      obtain ⟨A', h1, h2⟩ := ih (i := i) (by simpa using e)
      refine ⟨fp0 ++ A', .cons r0 h1, ?_⟩
      exact ((List.Perm.append_left fp0 h2).trans (by rw [← List.append_assoc, ← List.append_assoc]; exact List.Perm.append_right A0 List.perm_append_comm))
theorem RpS.swap (h : RpS K F M H σ ρ A) : ∀ {σ' : L2.St}, σ'.length = σ.length → (∀ (i : Nat) (y : Sl), ρ[i]? = some (some y) → σ'[i]? = σ[i]?) → RpS K F M H σ' ρ A := by
  induction h with
  | nil =>
    intro σ' hl _
    rw [List.length_nil] at hl
    rw [List.length_eq_zero_iff.mp hl]
    exact .nil
  | skip h ih =>
    intro σ' hl k
    cases σ' with
    | nil => simp at hl
    | cons o σ' => exact .skip (ih (by simpa using hl) fun i y e => by simpa using k (i + 1) y (by simpa using e))
  | cons r h ih =>
    intro σ' hl k
    cases σ' with
    | nil => simp at hl
    | cons o σ' =>
      have e0 := k 0 _ rfl
      simp at e0
      subst e0
      exact .cons r (ih (by simpa using hl) fun i y e => by simpa using k (i + 1) y (by simpa using e))
end
/-- what is told of the sets and the heap -/
structure Bs (F : Frm) (M : MS) (H : Hp) : Prop where
  sub : ∀ a, F.M0 a → M a
  m0 : ∀ a, F.M0 a → F.H0 a ≠ none
  b0 : ∀ i a, F.B i a → F.M0 a
  ml : ∀ a, M a → Mut (H a)
  mn : ∀ a, M a → F.M0 a ∨ F.H0 a = none
  fr : ∀ a o, F.H0 a = some o → (∀ i, ¬ F.B i a) → H a = some o
structure RepS (K : KW) (F : Frm) (G : List (V × T)) (M : MS) (H : Hp) (σ : L2.St) (ρ : DE) : Prop where
  b : Bs F M H
  rs : ∃ A B, RpS K F M H σ ρ A ∧ RTs K M H (G.map (·.1)) (G.map (·.2)) B ∧ (∀ a ∈ B, F.H0 a = none) ∧ (A ++ B).Nodup
section
variable {K : KW} {F : Frm} {G : List (V × T)} {M M' : MS} {H H' : Hp} {σ σ' : L2.St} {ρ : DE}
theorem Bs.fresh0 (r : Bs F M H) {p : Addr} (h : H p = none) : F.H0 p = none := by
  cases e : F.H0 p with
  | none => rfl
  | some o =>
    have q := r.fr p o e fun i z => by
      have m := r.ml p (r.sub p (r.b0 i p z))
      rw [h] at m
      exact m
    rw [q] at h
    cases h
/-- the heap changes at C, which may be changed; N is new -/
theorem Bs.chg (b : Bs F M H) {C N : List Addr} (hC : ∀ a ∈ C, (∃ i, F.B i a) ∨ F.H0 a = none) (hM : ∀ a ∈ C, M a) (hN : ∀ a ∈ N, H a = none) (k : ∀ a o, a ∉ C → H a = some o → H' a = some o) (hm : ∀ a, a ∈ C ∨ a ∈ N → Mut (H' a)) :
    Bs F (fun a => M a ∨ a ∈ N) H' ∧ Stp M H (fun a => M a ∨ a ∈ N) H' := by
  refine ⟨⟨fun a h => .inl (b.sub a h), b.m0, b.b0, fun a h => ?_, fun a h => ?_, fun a o e n => ?_⟩, fun a h => h.elim .inl fun h => .inr (hN a h), fun a o n e => k a o (fun h => n (hM a h)) e⟩
  · by_cases hc : a ∈ C
    · exact hm a (.inl hc)
    · rcases h with h | h
      · have q := b.ml a h
        cases e : H a with
        | none => rw [e] at q; exact q.elim
        | some o => rw [k a o hc e, ← e]; exact q
      · exact hm a (.inr h)
  · rcases h with h | h
    · exact b.mn a h
    · exact .inr (b.fresh0 (hN a h))
  · refine k a o (fun h => ?_) (b.fr a o e n)
    rcases hC a h with ⟨i, q⟩ | q
    · exact n i q
    · rw [q] at e
      cases e
theorem Bs.less (b : Bs F M H) {fp : List Addr} (h : ∀ a ∈ fp, F.H0 a = none) : Bs F (fun a => M a ∧ a ∉ fp) H :=
  ⟨fun a q => ⟨b.sub a q, fun z => b.m0 a q (h a z)⟩, b.m0, b.b0, fun a q => b.ml a q.1, fun a q => b.mn a q.1, b.fr⟩
theorem keepM (ml : ∀ a, M a → Mut (H a)) {C : List Addr} (k : ∀ a o, a ∉ C → H a = some o → H' a = some o) {a : Addr} (hm : M a) (hc : a ∉ C) : H' a = H a := by
  have q := ml a hm
  cases e : H a with
  | none => rw [e] at q; exact q.elim
  | some o => exact k a o hc e
theorem RepS.len (R : RepS K F G M H σ ρ) : σ.length = ρ.length := by
  obtain ⟨A, B, h, _⟩ := R.rs
  exact h.len
theorem RepS.ml (R : RepS K F G M H σ ρ) : ∀ a, M a → Mut (H a) := R.b.ml
theorem RepS.fresh0 (R : RepS K F G M H σ ρ) {p : Addr} (h : H p = none) : F.H0 p = none := R.b.fresh0 h
theorem RepS.notM (R : RepS K F G M H σ ρ) {p : Addr} (h : H p = none) : ¬ M p := fun q => by
  have := R.ml p q
  rw [h] at this
  exact this
theorem RepS.same (R : RepS K F G M H σ ρ) (s : Same H H') : RepS K F G M H' σ ρ := by
  obtain ⟨b, A, B, h1, h2, h3, h4⟩ := R
  have kk : ∀ a, M a → M a ∧ H' a = H a := fun a ha => ⟨ha, keepM (C := []) b.ml (fun a o _ e => s a o e) ha (by simp)⟩
  refine ⟨⟨b.sub, b.m0, b.b0, fun a h => ?_, b.mn, fun a o e n => s a o (b.fr a o e n)⟩, A, B, h1.stp b.ml (Stp.same s) fun a ha => kk a (h1.mem a ha), h2.stp b.ml (Stp.same s) fun a ha => kk a (h2.mem a ha), h3, h4⟩
  rw [(kk a h).2]
  exact b.ml a h
theorem RepS.dat (R : RepS K F G M H σ ρ) {i : Nat} {x : PyData} (e : ρ[i]? = some (some (.d x))) : ∃ v, σ[i]? = some (some v) ∧ Rp K M H v x := by
  obtain ⟨A, B, h, _⟩ := R.rs
  obtain ⟨v, fp, rest, h1, h2, _⟩ := h.focus e
  cases h2 with
  | d r => exact ⟨v, h1, r⟩
theorem RepS.own (R : RepS K F G M H σ ρ) {i : Nat} {m : Md} {t : T} (e : ρ[i]? = some (some (.o m t))) : ∃ v fp, σ[i]? = some (some v) ∧ RT K M H v t fp ∧ MdOk F m v fp := by
  obtain ⟨A, B, h, _⟩ := R.rs
  obtain ⟨v, fp, rest, h1, h2, _⟩ := h.focus e
  cases h2 with
  | o r q => exact ⟨v, fp, h1, r, q⟩
theorem RepS.forget (R : RepS K F G M H σ ρ) (k : Nat) : RepS K F G M H σ (ρ.set k none) := by
  obtain ⟨b, A, B, h1, h2, h3, h4⟩ := R
  obtain ⟨A', q1, q2⟩ := h1.forget k
  exact ⟨b, A', B, q1, h2, h3, h4.sublist (List.Sublist.append q2 (List.Sublist.refl B))⟩
theorem RepS.swap (R : RepS K F G M H σ ρ) (hl : σ'.length = σ.length) (h : ∀ (i : Nat) (y : Sl), ρ[i]? = some (some y) → σ'[i]? = σ[i]?) : RepS K F G M H σ' ρ := by
  obtain ⟨b, A, B, h1, h2, h3, h4⟩ := R
  exact ⟨b, A, B, h1.swap hl h, h2, h3, h4⟩
theorem set_out {α : Type} {l : List α} {k : Nat} {x : α} (h : ¬ k < l.length) : l.set k x = l := List.set_eq_of_length_le (by omega)
/-- a slot gets a datum -/
theorem RepS.put (R : RepS K F G M H σ ρ) (k : Nat) {v : V} {x : PyData} (r : Rp K M H v x) : RepS K F G M H (σ.set k (some v)) (ρ.set k (some (.d x))) := by
  by_cases hk : k < ρ.length
  · obtain ⟨b, A, B, h1, h2, h3, h4⟩ := R.forget k
    obtain ⟨A', q1, q2⟩ := h1.plug (SlR.d (F := F) r) (i := k) (by rw [List.getElem?_set_self hk])
    rw [List.set_set] at q1
    exact ⟨b, A', B, q1, h2, h3, (List.Perm.append_right B q2).nodup_iff.mpr h4⟩
  · have hk2 : ¬ k < σ.length := by rw [R.len]; exact hk
    rw [set_out hk, set_out hk2]
    exact R
/-! temporaries -/
theorem RepS.push (R : RepS K F G M H σ ρ) {v : V} {x : PyData} (r : Rp K M H v x) : RepS K F ((v, .d x) :: G) M H σ ρ := by
  obtain ⟨b, A, B, h1, h2, h3, h4⟩ := R
  exact ⟨b, A, [] ++ B, h1, .cons (.d r) h2, h3, h4⟩
theorem RepS.top (R : RepS K F ((v, t) :: G) M H σ ρ) : ∃ fp, RT K M H v t fp ∧ ∀ a ∈ fp, F.H0 a = none := by
  obtain ⟨b, A, B, h1, h2, h3, h4⟩ := R
  cases h2 with
  | cons r rs => exact ⟨_, r, fun a ha => h3 a (List.mem_append_left _ ha)⟩
theorem RepS.topD {v : V} {x : PyData} (R : RepS K F ((v, .d x) :: G) M H σ ρ) : Rp K M H v x := by
  obtain ⟨fp, r, _⟩ := R.top
  cases r with
  | d r => exact r
theorem RepS.pop {v : V} {t : T} (R : RepS K F ((v, t) :: G) M H σ ρ) : RepS K F G M H σ ρ := by
  obtain ⟨b, A, B, h1, h2, h3, h4⟩ := R
  cases h2 with
  | @cons _ _ _ _ fp fq r rs => exact ⟨b, A, fq, h1, rs, fun a ha => h3 a (List.mem_append_right _ ha), h4.sublist (List.Sublist.append (List.Sublist.refl A) (List.sublist_append_right _ _))⟩
theorem RepS.popD {v : V} {x : PyData} (R : RepS K F ((v, .d x) :: G) M H σ ρ) : RepS K F G M H σ ρ ∧ Rp K M H v x := ⟨R.pop, R.topD⟩
/-- two temporaries change places -/
theorem RepS.exch {g1 g2 : V × T} (R : RepS K F (g1 :: g2 :: G) M H σ ρ) : RepS K F (g2 :: g1 :: G) M H σ ρ := by
  obtain ⟨b, A, B, h1, h2, h3, h4⟩ := R
  cases h2 with
  | @cons _ _ _ _ fp fq r rs =>
    cases rs with
    | @cons _ _ _ _ fp2 fq2 r2 rs2 =>
      have p : (fp2 ++ (fp ++ fq2)).Perm (fp ++ (fp2 ++ fq2)) := by rw [← List.append_assoc, ← List.append_assoc]; exact List.Perm.append_right _ List.perm_append_comm
      exact ⟨b, A, fp2 ++ (fp ++ fq2), h1, .cons r2 (.cons r rs2), fun a ha => h3 a (p.mem_iff.mp ha), (List.Perm.append_left A p).nodup_iff.mpr h4⟩
theorem stp_new (R : RepS K F G M H σ ρ) {p : Addr} {o : HO} (hp : H p = none) : Stp M H (fun a => M a ∨ a = p) (upd H p o) := ⟨fun a h => h.elim .inl fun h => .inr (h ▸ hp), fun a x n e => by rw [upd_ne (ne_of_none e hp)]; exact e⟩
/-- a new object that may change -/
theorem RepS.new (R : RepS K F G M H σ ρ) {p : Addr} {o : HO} {t : T} (hp : H p = none) (ho : Mut (some o)) (r : RT K (fun a => M a ∨ a = p) (upd H p o) (.ref p) t [p]) : RepS K F ((.ref p, t) :: G) (fun a => M a ∨ a = p) (upd H p o) σ ρ := by
  have g := stp_new R (o := o) hp
  have f0 := R.fresh0 hp
  have nM := R.notM hp
  obtain ⟨b, A, B, h1, h2, h3, h4⟩ := R
  have kk : ∀ a, M a → (M a ∨ a = p) ∧ upd H p o a = H a := fun a ha => ⟨.inl ha, upd_ne fun z => nM (z ▸ ha)⟩
  refine ⟨⟨fun a h => .inl (b.sub a h), b.m0, b.b0, fun a h => ?_, fun a h => h.elim (b.mn a) fun h => .inr (h ▸ f0), fun a x e n => same_new hp a x (b.fr a x e n)⟩, A, [p] ++ B, h1.stp b.ml g fun a ha => kk a (h1.mem a ha), .cons r (h2.stp b.ml g fun a ha => kk a (h2.mem a ha)), fun a ha => ?_, ?_⟩
  · rcases h with h | h
    · rw [(kk a h).2]; exact b.ml a h
    · subst h; rw [upd_same]; exact ho
  · rcases List.mem_append.mp ha with ha | ha
    · rw [List.mem_singleton] at ha; subst ha; exact f0
    · exact h3 a ha
  · have q : (p :: (A ++ B)).Nodup := List.nodup_cons.mpr ⟨fun z => by
      rcases List.mem_append.mp z with z | z
      · exact nM (h1.mem p z)
      · exact nM (h2.mem p z), h4⟩
    refine (List.Perm.nodup_iff ?_).mpr q
    rw [← List.append_assoc]
    exact (List.Perm.append_right B List.perm_append_comm)
/-- a temporary becomes a slot's -/
theorem RepS.take {v : V} {t : T} (R : RepS K F ((v, t) :: G) M H σ ρ) (k : Nat) : RepS K F G M H (σ.set k (some v)) (ρ.set k (some (.o .loc t))) := by
  by_cases hk : k < ρ.length
  · obtain ⟨b, A, B, h1, h2, h3, h4⟩ := R.forget k
    cases h2 with
    | @cons _ _ _ _ fp fq r rs =>
      obtain ⟨A', q1, q2⟩ := h1.plug (SlR.o (F := F) (m := .loc) r fun a ha => h3 a (List.mem_append_left _ ha)) (i := k) (by rw [List.getElem?_set_self hk])
      rw [List.set_set] at q1
      refine ⟨b, A', fq, q1, rs, fun a ha => h3 a (List.mem_append_right _ ha), ?_⟩
      refine (List.Perm.nodup_iff ?_).mpr h4
      refine (List.Perm.append_right fq q2).trans ?_
      rw [← List.append_assoc]
      exact List.Perm.append_right fq List.perm_append_comm
  · have hk2 : ¬ k < σ.length := by rw [R.len]; exact hk
    rw [set_out hk, set_out hk2]
    exact R.pop
/-- a slot's own tree becomes a temporary -/
theorem RepS.give (R : RepS K F G M H σ ρ) {k : Nat} {t : T} (e : ρ[k]? = some (some (.o .loc t))) : ∃ v, σ[k]? = some (some v) ∧ RepS K F ((v, t) :: G) M H σ (ρ.set k none) := by
  obtain ⟨b, A, B, h1, h2, h3, h4⟩ := R
  obtain ⟨v, fp, rest, q1, q2, q3, q4⟩ := h1.focus e
  cases q2 with
  | o r mo =>
    refine ⟨v, q1, b, rest, fp ++ B, q3, .cons r h2, fun a ha => (List.mem_append.mp ha).elim (mo a) (h3 a), ?_⟩
    refine (List.Perm.nodup_iff ?_).mpr h4
    refine List.Perm.trans ?_ (List.Perm.append_right B q4).symm
    rw [← List.append_assoc]
    exact List.Perm.append_right B List.perm_append_comm
/-- a temporary becomes a datum -/
theorem RepS.freezeT {v : V} {t : T} {x : PyData} (R : RepS K F ((v, t) :: G) M H σ ρ) (hx : t.data = some x) : ∃ M', RepS K F ((v, .d x) :: G) M' H σ ρ := by
  obtain ⟨b, A, B, h1, h2, h3, h4⟩ := R
  cases h2 with
  | @cons _ _ _ _ fp fq r rs =>
    have nd := List.nodup_append.mp h4
    have nd2 := List.nodup_append.mp nd.2.1
    refine ⟨fun a => M a ∧ a ∉ fp, b.less fun a ha => h3 a (List.mem_append_left _ ha), A, [] ++ fq, h1.less (fun a z => z.1) fun a ha => ⟨h1.mem a ha, fun z => ?_⟩, .cons (.d (r.froze (fun a z => z.1) hx fun a ha z => z.2 ha)) (rs.less (fun a z => z.1) fun a ha => ⟨rs.mem a ha, fun z => ?_⟩), fun a ha => h3 a (List.mem_append_right _ ha), ?_⟩
    · exact nd.2.2 a ha a (List.mem_append_left _ z) rfl
    · exact nd2.2.2 a z a ha rfl
    · exact h4.sublist (List.Sublist.append (List.Sublist.refl A) (List.sublist_append_right _ _))
/-- a slot's own tree becomes a datum -/
theorem RepS.freeze (R : RepS K F G M H σ ρ) {k : Nat} {t : T} {x : PyData} (e : ρ[k]? = some (some (.o .loc t))) (hx : t.data = some x) : ∃ M', RepS K F G M' H σ (ρ.set k (some (.d x))) := by
  obtain ⟨v, e1, R1⟩ := R.give e
  obtain ⟨M', R2⟩ := R1.freezeT hx
  have hk : k < ρ.length := (List.getElem?_eq_some_iff.mp e).1
  have R3 := R2.pop.put k R2.topD
  rw [List.set_set] at R3
  have hk2 : k < σ.length := by rw [R.len]; exact hk
  have e3 : σ.set k (some v) = σ := by
    apply List.ext_getElem?
    intro i
    by_cases hi : i = k
    · subst hi
      rw [List.getElem?_set_self hk2, e1]
    · rw [List.getElem?_set_ne (Ne.symm hi)]
  rw [e3] at R3
  exact ⟨M', R3⟩
/-- a slot's tree changes; a temporary may go into it -/
theorem RepS.chg {u : V} {tu : T} (R : RepS K F ((u, tu) :: G) M H σ ρ) {k : Nat} {m : Md} {t : T} (e : ρ[k]? = some (some (.o m t))) (hm : m ≠ .ro) :
    ∃ v fp fq, σ[k]? = some (some v) ∧ RT K M H v t fp ∧ RT K M H u tu fq ∧ (fp ++ fq).Nodup ∧ ∀ (N : List Addr) (H' : Hp) (t' : T) (fp' : List Addr), (∀ a ∈ N, H a = none) → (∀ a o, a ∉ fp → H a = some o → H' a = some o) → (∀ a, a ∈ fp ∨ a ∈ N → Mut (H' a)) →
      RT K (fun a => M a ∨ a ∈ N) H' v t' fp' → fp'.Nodup → (∀ a ∈ fp', a ∈ fp ∨ a ∈ fq ∨ a ∈ N) → RepS K F G (fun a => M a ∨ a ∈ N) H' σ (ρ.set k (some (.o m t'))) := by
  obtain ⟨b, A, B, h1, h2, h3, h4⟩ := R
  obtain ⟨v, fp, rest, q1, q2, q3, q4⟩ := h1.focus e
  have hk : k < ρ.length := (List.getElem?_eq_some_iff.mp e).1
  cases q2 with
  | o r mo =>
    cases h2 with
    | @cons _ _ _ _ fq fr ru rs =>
      have nd : (fp ++ (rest ++ (fq ++ fr))).Nodup := by
        rw [← List.append_assoc]
        exact (List.Perm.append_right _ q4).nodup_iff.mp h4
      have nd1 := List.nodup_append.mp nd
      have nd2 := List.nodup_append.mp nd1.2.1
      have nd3 := List.nodup_append.mp nd2.2.1
      refine ⟨v, fp, fq, q1, r, ru, nd.sublist (List.Sublist.append (List.Sublist.refl fp) ((List.sublist_append_left fq fr).trans (List.sublist_append_right rest _))), fun N H' t' fp' hN kk hmut r' nd' sub' => ?_⟩
      have hC : ∀ a ∈ fp, (∃ i, F.B i a) ∨ F.H0 a = none := by
        cases m with
        | loc => exact fun a ha => .inr (mo a ha)
        | len i => exact fun a ha => (mo.2 a ha).imp (fun z => ⟨i, z⟩) id
        | ro => exact absurd rfl hm
      obtain ⟨b', g⟩ := b.chg hC r.mem hN kk hmut
      have keep : ∀ a, M a → a ∉ fp → (M a ∨ a ∈ N) ∧ H' a = H a := fun a ha hn => ⟨.inl ha, keepM b.ml kk ha hn⟩
      have s1 : SlR K F (fun a => M a ∨ a ∈ N) H' v (.o m t') fp' := .o r' (mo.chg fun a ha => by
        rcases sub' a ha with z | z | z
        · exact .inl z
        · exact .inr (h3 a (List.mem_append_left _ z))
        · exact .inr (b.fresh0 (hN a z)))
      have q3' := q3.stp b.ml g fun a ha => keep a (q3.mem a ha) fun z => nd1.2.2 a z a (List.mem_append_left _ ha) rfl
      obtain ⟨A', p1, p2⟩ := q3'.plug s1 (i := k) (by rw [List.getElem?_set_self hk])
      rw [List.set_set] at p1
      have hσ : σ.set k (some v) = σ := by
        have hk2 : k < σ.length := by rw [h1.len]; exact hk
        apply List.ext_getElem?
        intro i
        by_cases hi : i = k
        · subst hi
          rw [List.getElem?_set_self hk2, q1]
        · rw [List.getElem?_set_ne (Ne.symm hi)]
      rw [hσ] at p1
      refine ⟨b', A', fr, p1, rs.stp b.ml g fun a ha => keep a (rs.mem a ha) fun z => nd1.2.2 a z a (List.mem_append_right _ (List.mem_append_right _ ha)) rfl, fun a ha => h3 a (List.mem_append_right _ ha), ?_⟩
      refine (List.Perm.append_right fr p2).nodup_iff.mpr ?_
      rw [List.append_assoc]
      refine List.nodup_append.mpr ⟨nd', nd1.2.1.sublist (List.Sublist.append (List.Sublist.refl rest) (List.sublist_append_right fq fr)), fun a ha c hc z => ?_⟩
      subst z
      rcases sub' a ha with z | z | z
      · refine nd1.2.2 a z a ?_ rfl
        rcases List.mem_append.mp hc with hc | hc
        · exact List.mem_append_left _ hc
        · exact List.mem_append_right _ (List.mem_append_right _ hc)
      · rcases List.mem_append.mp hc with hc | hc
        · exact nd2.2.2 a hc a (List.mem_append_left _ z) rfl
        · exact nd3.2.2 a z a hc rfl
      · have hMa : M a := by
          rcases List.mem_append.mp hc with hc | hc
          · exact q3.mem a hc
          · exact rs.mem a hc
        have := b.ml a hMa
        rw [hN a z] at this
        exact this
end
end Dat
set_option Elab.async false
set_option linter.all false
set_option maxRecDepth 100000
set_option maxHeartbeats 4000000
namespace Dat
open PySem PySem.Spec PyProof.Rows L2
/-! ### exceptions, as data -/
structure Exc where
  c : Str
  fs : List (Str × PyData)
def ExcD (K : KW) (M : MS) (H : Hp) (d : Option Addr) (fs : List (Str × PyData)) : Prop := (fs = [] ∧ d = none) ∨ ∃ (a : Addr) (vs : List V), d = some a ∧ H a = some (.xd ((fs.map (·.1)).zip vs)) ∧ RpAll K M H vs (fs.map (·.2))
abbrev WXd := Exc → DE → Prop
/-- what is wished of exceptions: by values, by data -/
structure XC where
  mg : Str → Option Value
  W : WX
  x : WXd
def CxW (Z : XC) (K : KW) (F : Frm) (G : List (V × T)) : Prop := ∀ (ex : Exc) (cls : Value) (d : Option Addr) (ρ' : DE) (M' : MS) (σ' : L2.St) (H' : Hp), RepS K F G M' H' σ' ρ' → Z.mg ex.c = some cls → ExcD K M' H' d ex.fs → Z.x ex ρ' → Z.W cls d σ' H'
structure RepX (Z : XC) (K : KW) (F : Frm) (G : List (V × T)) (M : MS) (H : Hp) (σ : L2.St) (ρ : DE) : Prop where
  r : RepS K F G M H σ ρ
  cx : CxW Z K F G
section
variable {Z : XC} {K : KW} {F : Frm} {G : List (V × T)} {M M' : MS} {H H' : Hp} {σ σ' : L2.St} {ρ ρ' : DE}
theorem RepX.to (R : RepX Z K F G M H σ ρ) (r : RepS K F G M' H' σ' ρ') : RepX Z K F G M' H' σ' ρ' := ⟨r, R.cx⟩
theorem RepX.ml (R : RepX Z K F G M H σ ρ) : ∀ a, M a → Mut (H a) := R.r.ml
theorem RepX.same (R : RepX Z K F G M H σ ρ) (s : Same H H') : RepX Z K F G M H' σ ρ := ⟨R.r.same s, R.cx⟩
theorem RepX.up {g : V × T} {M' : MS} {H' : Hp} {σ' : L2.St} {ρ' : DE} (R : RepX Z K F G M H σ ρ) (r : RepS K F (g :: G) M' H' σ' ρ') : RepX Z K F (g :: G) M' H' σ' ρ' := ⟨r, fun ex cls d ρ' M' σ' H' r' => R.cx ex cls d ρ' M' σ' H' r'.pop⟩
theorem RepX.push (R : RepX Z K F G M H σ ρ) {v : V} {x : PyData} (r : Rp K M H v x) : RepX Z K F ((v, .d x) :: G) M H σ ρ := R.up (R.r.push r)
end

/-! ### what readings do to data -/
abbrev WE := DE → (PyData → DE → Prop) → Prop
abbrev WT := DE → (Bool → DE → Prop) → Prop
abbrev WA := DE → (List PyData → DE → Prop) → Prop
/-- a new tree comes -/
abbrev WN := DE → (T → DE → Prop) → Prop
structure DEnds where
  nx : DE → Prop
  rt : PyData → DE → Prop
  bk : DE → Prop := fun _ => False
  ct : DE → Prop := fun _ => False
  rl : T → DE → Prop := fun _ _ => False
abbrev WS := DEnds → DE → Prop
def ImpE (Z : XC) (K : KW) (t : TE) (w : WE) : Prop := ∀ (F : Frm) (G : List (V × T)) (M : MS) (σ : L2.St) (H : Hp) (ρ : DE), RepX Z K F G M H σ ρ → ∀ P, w ρ P → ∀ Q : VK,
  (∀ x ρ' v M' H', RepX Z K F G M' H' σ ρ' → Rp K M' H' v x → P x ρ' → Q v H') → t σ H Q
def ImpN (Z : XC) (K : KW) (t : TE) (w : WN) : Prop := ∀ (F : Frm) (G : List (V × T)) (M : MS) (σ : L2.St) (H : Hp) (ρ : DE), RepX Z K F G M H σ ρ → ∀ P, w ρ P → ∀ Q : VK,
  (∀ x ρ' v M' H', RepX Z K F ((v, x) :: G) M' H' σ ρ' → P x ρ' → Q v H') → t σ H Q
def ImpT (Z : XC) (K : KW) (t : TT) (w : WT) : Prop := ∀ (F : Frm) (G : List (V × T)) (M : MS) (σ : L2.St) (H : Hp) (ρ : DE), RepX Z K F G M H σ ρ → ∀ P, w ρ P → ∀ Q : Bool → Hp → Prop,
  (∀ b ρ' M' H', RepX Z K F G M' H' σ ρ' → P b ρ' → Q b H') → t σ H Q
def ImpA (Z : XC) (K : KW) (t : TA) (w : WA) : Prop := ∀ (F : Frm) (G : List (V × T)) (M : MS) (σ : L2.St) (H : Hp) (ρ : DE), RepX Z K F G M H σ ρ → ∀ P, w ρ P → ∀ Q : List V → Hp → Prop,
  (∀ xs ρ' vs M' H', RepX Z K F G M' H' σ ρ' → RpAll K M' H' vs xs → P xs ρ' → Q vs H') → t σ H Q
structure Conn (K : KW) (F : Frm) (G : List (V × T)) (E : DEnds) (D : Ends) : Prop where
  nx : ∀ ρ' M' σ' H', RepS K F G M' H' σ' ρ' → E.nx ρ' → D.nx σ' H'
  rt : ∀ x ρ' v M' σ' H', RepS K F G M' H' σ' ρ' → Rp K M' H' v x → E.rt x ρ' → D.rt v H'
  bk : ∀ ρ' M' σ' H', RepS K F G M' H' σ' ρ' → E.bk ρ' → D.bk σ' H'
  ct : ∀ ρ' M' σ' H', RepS K F G M' H' σ' ρ' → E.ct ρ' → D.ct σ' H'
  rl : ∀ t ρ' v M' σ' H', RepS K F ((v, t) :: G) M' H' σ' ρ' → E.rl t ρ' → D.rt v H'
theorem Conn.up {K : KW} {F : Frm} {G : List (V × T)} {E : DEnds} {D : Ends} (c : Conn K F G E D) (g : V × T) : Conn K F (g :: G) E D :=
  ⟨fun ρ' M' σ' H' r => c.nx ρ' M' σ' H' r.pop, fun x ρ' v M' σ' H' r => c.rt x ρ' v M' σ' H' r.pop, fun ρ' M' σ' H' r => c.bk ρ' M' σ' H' r.pop, fun ρ' M' σ' H' r => c.ct ρ' M' σ' H' r.pop, fun t ρ' v M' σ' H' r => c.rl t ρ' v M' σ' H' r.exch.pop⟩
def ImpS (Z : XC) (K : KW) (t : TS) (w : WS) : Prop := ∀ (F : Frm) (G : List (V × T)) (M : MS) (σ : L2.St) (H : Hp) (ρ : DE), RepX Z K F G M H σ ρ → ∀ (E : DEnds), w E ρ → ∀ D : Ends, Conn K F G E D → t D σ H

structure PEd (Z : XC) (X : Cx) (e : Expr) (t : TE) (w : WE) : Prop where
  p : PE X e t
  i : ImpE Z X.kw t w
structure PNd (Z : XC) (X : Cx) (e : Expr) (t : TE) (w : WN) : Prop where
  p : PE X e t
  i : ImpN Z X.kw t w
structure PTd (Z : XC) (X : Cx) (e : Expr) (t : TT) (w : WT) : Prop where
  p : PT X e t
  i : ImpT Z X.kw t w
structure PWd (Z : XC) (X : Cx) (e : Expr) (t : TT) (w : WT) : Prop where
  p : PW X e t
  i : ImpT Z X.kw t w
structure PAd (Z : XC) (X : Cx) (es : List Expr) (t : TA) (w : WA) : Prop where
  p : PA X es t
  i : ImpA Z X.kw t w
structure PSd (Z : XC) (X : Cx) (s : Stmt) (t : TS) (w : WS) : Prop where
  p : PS X s t
  i : ImpS Z X.kw t w
structure PBd (Z : XC) (X : Cx) (s : List Stmt) (t : TS) (w : WS) : Prop where
  p : PSs X s t
  i : ImpS Z X.kw t w
section
variable {Z : XC} {K : KW} {X : Cx} {a b c e : Expr} {es : List Expr} {ta tb tc te : TE} {wa wb wc we : WE} {pos : Pos}

/-! ### names and constants -/
def wVar (i : Nat) : WE := fun ρ P => ∃ x, ρ[i]? = some (some (.d x)) ∧ P x ρ
def wC (x : PyData) : WE := fun ρ P => P x ρ
theorem imp_var (i : Nat) : ImpE Z K (tVar i) (wVar i) := by
  intro F G M σ H ρ R P ⟨x, e, hp⟩ Q k
  obtain ⟨v, h1, h2⟩ := R.r.dat e
  exact ⟨v, h1, k x ρ v M H R h2 hp⟩
theorem imp_c {v : V} {x : PyData} (h : ∀ M H, Rp K M H v x) : ImpE Z K (tC v) (wC x) := by
  intro F G M σ H ρ R P hp Q k
  exact k x ρ v M H R (h M H) hp
theorem dv (i : Nat) {x : Str} {pos : Pos} (hN : X.N[i]? = some x := by rfl) (hv : Vis X.env.scope x := by first | exact Or.inl rfl | exact Or.inr (Or.inl rfl) | exact Or.inr (Or.inr rfl)) (hd : (x == ("__debug__" : Str)) = false := by decide)
    (hcd : (x == ("__classdict__" : Str)) = false := by decide) : PEd Z X (.Name x pos) (tVar i) (wVar i) := ⟨pe_var hN hv hd hcd, imp_var i⟩
theorem d_int {i j pos} : PEd Z X (.Constant (.int i) j pos) (tC (.int i)) (wC (.int i)) := ⟨pe_int, imp_c fun _ _ => .int i⟩
theorem d_bl {b j pos} : PEd Z X (.Constant (.bool b) j pos) (tC (.bl b)) (wC (.bool b)) := ⟨pe_bl, imp_c fun _ _ => .bl b⟩
theorem d_non {j pos} : PEd Z X (.Constant .none j pos) (tC .non) (wC .none) := ⟨pe_non, imp_c fun _ _ => .non⟩
theorem d_str {x j pos} : PEd Z X (.Constant (.str x) j pos) (tC (.str x)) (wC (.str x)) := ⟨pe_str, imp_c fun _ _ => .str x⟩
/-- a constant of the module -/
theorem d_glob {x : Str} {v : V} {u : Value} {d : PyData} {pos : Pos} (hg : Gl X x) (hm : X.mg x = some u) (r : RelV v u) (h : ∀ M H, Rp X.kw M H v d) (hd : (x == ("__debug__" : Str)) = false := by decide) : PEd Z X (.Name x pos) (tC v) (wC d) :=
  ⟨pe_glob hg hm r hd, imp_c h⟩

/-! ### two-place operations -/
def wBin (f : PyData → PyData → Option PyData) (wa wb : WE) : WE := fun ρ P => wa ρ fun x ρ1 => wb ρ1 fun y ρ2 => ∃ z, f x y = some z ∧ P z ρ2
def LiftR (K : KW) (r : R2) (f : PyData → PyData → Option PyData) : Prop := ∀ (M : MS) (H : Hp) x y z v u, (∀ a, M a → Mut (H a)) → f x y = some z → Rp K M H v x → Rp K M H u y → ∀ Q : VK, (∀ v' H', Same H H' → Rp K M H' v' z → Q v' H') → r v u H Q
theorem imp_op {r : R2} {f : PyData → PyData → Option PyData} (l : LiftR K r f) (ha : ImpE Z K ta wa) (hb : ImpE Z K tb wb) : ImpE Z K (tOp r ta tb) (wBin f wa wb) := by
  intro F G M σ H ρ R P hw Q k
  refine ha F G M σ H ρ R _ hw _ fun x ρ1 v M1 H1 R1 r1 hw1 => ?_
  refine hb F _ M1 σ H1 ρ1 (R1.push r1) _ hw1 _ fun y ρ2 u M2 H2 R2 r2 ⟨z, e, hp⟩ => ?_
  refine l M2 H2 x y z v u R2.ml e R2.r.topD r2 Q fun v' H3 s r3 => ?_
  exact k z ρ2 v' M2 H3 (R.to (R2.r.pop.same s)) r3 hp
theorem d_op {op : Operator} {r : R2} {f : PyData → PyData → Option PyData} (ho : OpR X (binaryOp op) r) (l : LiftR X.kw r f) (ha : PEd Z X a ta wa) (hb : PEd Z X b tb wb) : PEd Z X (.BinOp a op b pos) (tOp r ta tb) (wBin f wa wb) := ⟨pe_op ho ha.p hb.p, imp_op l ha.i hb.i⟩
theorem d_cmp {op : CmpOp} {r : R2} {f : PyData → PyData → Option PyData} (ho : OpR X (compareOp op) r) (l : LiftR X.kw r f) (ha : PEd Z X a ta wa) (hb : PEd Z X b tb wb) (hm : behindInMarks op b = false) : PEd Z X (.Compare a [op] [b] pos) (tOp r ta tb) (wBin f wa wb) := ⟨pe_cmpR ho ha.p hb.p hm, imp_op l ha.i hb.i⟩
theorem LiftR.or {r r' : R2} {f : PyData → PyData → Option PyData} (h : ∀ (M : MS) (H : Hp) x y z v u, (∀ a, M a → Mut (H a)) → f x y = some z → Rp K M H v x → Rp K M H u y → ∀ Q : VK, (∀ v' H', Same H H' → Rp K M H' v' z → Q v' H') → r v u H Q ∨ r' v u H Q) : LiftR K (fun x y H Q => r x y H Q ∨ r' x y H Q) f := h
/-- ints -/
def intF (g : Int → Int → Option PyData) : PyData → PyData → Option PyData
  | .int i, .int j => g i j
  | _, _ => none
theorem intF_some {g : Int → Int → Option PyData} {x y z : PyData} (h : intF g x y = some z) : ∃ i j, x = .int i ∧ y = .int j ∧ g i j = some z := by
  cases x <;> cases y <;> first | (exact ⟨_, _, rfl, rfl, h⟩) | (simp [intF] at h)
theorem lift_I0 {g : Int → Int → V} {f : Int → Int → PyData} (h : ∀ i j M H, Rp K M H (g i j) (f i j)) : LiftR K (rI0 g) (intF fun i j => some (f i j)) := by
  intro M H x y z v u ml e rx ry Q k
  replace e := intF_some e
  obtain ⟨i, j, rfl, rfl, e⟩ := e
  cases e
  cases rx
  cases ry
  exact ⟨i, j, rfl, rfl, k _ H (Same.refl H) (h i j M H)⟩
theorem lift_I {C : Int → Int → Prop} {g : Int → Int → V} {cf : Int → Int → Bool} {f : Int → Int → PyData} (hc : ∀ i j, cf i j = true → C i j) (h : ∀ i j M H, Rp K M H (g i j) (f i j)) : LiftR K (rI C g) (intF fun i j => if cf i j = true then some (f i j) else none) := by
  intro M H x y z v u ml e rx ry Q k
  replace e := intF_some e
  obtain ⟨i, j, rfl, rfl, e⟩ := e
  by_cases q : cf i j = true
  · rw [if_pos q] at e
    cases e
    cases rx
    cases ry
    exact ⟨i, j, rfl, rfl, hc i j q, k _ H (Same.refl H) (h i j M H)⟩
  · rw [if_neg q] at e
    cases e
abbrev fSub := intF fun i j => some (.int (i - j))
theorem l_sub : LiftR K (rI0 fun i j => .int (i - j)) fSub := lift_I0 fun _ _ _ _ => .int _
abbrev cMul (i j : Int) : Bool := decide (-(2 ^ 64) < i ∧ i < 2 ^ 64) || decide (-(2 ^ 64) < j ∧ j < 2 ^ 64)
abbrev fMul := intF fun i j => if cMul i j = true then some (.int (i * j)) else none
theorem l_mul : LiftR K (rI CMul fun i j => .int (i * j)) fMul := lift_I (fun i j h => by
  rw [Bool.or_eq_true] at h
  rcases h with h | h
  · exact .inl (of_decide_eq_true h)
  · exact .inr (of_decide_eq_true h)) fun _ _ _ _ => .int _
abbrev fMod := intF fun i j => if decide (0 < j) = true then some (.int (i % j)) else none
theorem l_mod : LiftR K (rI (fun _ j => 0 < j) fun i j => .int (i % j)) fMod := lift_I (fun _ _ h => of_decide_eq_true h) fun _ _ _ _ => .int _
abbrev fDiv := intF fun i j => if decide (0 < j ∧ j < 1073741824) = true then some (.int (i / j)) else none
theorem l_div : LiftR K (rI CDiv fun i j => .int (i / j)) fDiv := lift_I (fun i j h => by exact of_decide_eq_true (p := 0 < j ∧ j < 1073741824) h) fun _ _ _ _ => .int _
abbrev fPow := intF fun i j => if decide (0 ≤ j ∧ j ≤ 1000000 ∧ i.natAbs < 2 ^ 64) = true then some (.int (i ^ j.toNat)) else none
theorem l_pow : LiftR K (rI CPow fun i j => .int (i ^ j.toNat)) fPow := lift_I (fun i j h => by exact of_decide_eq_true (p := 0 ≤ j ∧ j ≤ 1000000 ∧ i.natAbs < 2 ^ 64) h) fun _ _ _ _ => .int _
abbrev fLt := intF fun i j => some (.bool (decide (i < j)))
theorem l_lt : LiftR K (rI0 fun i j => .bl (decide (i < j))) fLt := lift_I0 fun _ _ _ _ => .bl _
abbrev fLe := intF fun i j => some (.bool (decide (i ≤ j)))
theorem l_le : LiftR K (rI0 fun i j => .bl (decide (i ≤ j))) fLe := lift_I0 fun _ _ _ _ => .bl _
abbrev fGt := intF fun i j => some (.bool (decide (j < i)))
theorem l_gt : LiftR K (rI0 fun i j => .bl (decide (j < i))) fGt := lift_I0 fun _ _ _ _ => .bl _
abbrev fGe := intF fun i j => some (.bool (decide (j ≤ i)))
theorem l_ge : LiftR K (rI0 fun i j => .bl (decide (j ≤ i))) fGe := lift_I0 fun _ _ _ _ => .bl _
/-- a new list, a new tuple of data -/
theorem rp_newL {M : MS} {H : Hp} {p : Addr} {vs : List V} {xs : List PyData} (ml : ∀ a, M a → Mut (H a)) (hp : H p = none) (h : RpAll K M H vs xs) : Rp K M (upd H p (.lst vs)) (.ref p) (.list xs) :=
  .lst (fun q => by have := ml p q; rw [hp] at this; exact this) upd_same (h.same ml (same_new hp))
theorem rp_newT {M : MS} {H : Hp} {p : Addr} {vs : List V} {xs : List PyData} (ml : ∀ a, M a → Mut (H a)) (hp : H p = none) (h : RpAll K M H vs xs) : Rp K M (upd H p (.tup vs)) (.ref p) (.tuple xs) :=
  .tup (SqT.of upd_same) (h.same ml (same_new hp))
/-- + of ints, texts, lists, tuples -/
def fAdd : PyData → PyData → Option PyData
  | .int i, .int j => some (.int (i + j))
  | .str x, .str y => if x.length + y.length ≤ sizeLine then some (.str (x ++ y)) else none
  | .list xs, .list ys => if xs.length + ys.length ≤ sizeLine then some (.list (xs ++ ys)) else none
  | .tuple xs, .tuple ys => if xs.length + ys.length ≤ sizeLine then some (.tuple (xs ++ ys)) else none
  | _, _ => none
def rAddA (K : KW) : R2 := fun x y H Q => (rI0 (fun i j => .int (i + j)) x y H Q) ∨ ((∃ i j, x = .str i ∧ y = .str j ∧ i.length + j.length ≤ sizeLine ∧ Q (.str (i ++ j)) H) ∨ (rCat x y H Q ∨ rCatA K x y H Q))
theorem op_addA : OpR X (binaryOp .Add) (rAddA X.kw) := op_add.or (op_add_str.or (op_cat.or op_catA))
theorem l_add : LiftR K (rAddA K) fAdd := by
  intro M H x y z v u ml e rx ry Q k
  cases x with
  | int i =>
    cases y <;> first | (simp [fAdd] at e; done) | skip
    simp only [fAdd] at e
    cases e
    cases rx
    cases ry
    exact .inl ⟨_, _, rfl, rfl, k _ H (Same.refl H) (.int _)⟩
  | str i =>
    cases y <;> first | (simp [fAdd] at e; done) | skip
    simp only [fAdd] at e
    split at e
    · cases e
      cases rx
      cases ry
      exact .inr (.inl ⟨_, _, rfl, rfl, by assumption, k _ H (Same.refl H) (.str _)⟩)
    · cases e
  | list i =>
    cases y <;> first | (simp [fAdd] at e; done) | skip
    simp only [fAdd] at e
    split at e
    · cases e
      cases rx with
      | lst n1 e1 h1 =>
        cases ry with
        | lst n2 e2 h2 => exact .inr (.inr (.inl ⟨_, _, _, _, rfl, rfl, e1, e2, by rw [h1.length, h2.length]; assumption, fun p hp => k _ _ (same_new hp) (rp_newL ml hp (h1.append h2))⟩))
    · cases e
  | tuple i =>
    cases y <;> first | (simp [fAdd] at e; done) | skip
    simp only [fAdd] at e
    split at e
    · cases e
      cases rx with
      | tup e1 h1 =>
        cases ry with
        | tup e2 h2 =>
          refine .inr (.inr (.inr ⟨_, _, _, _, rfl, rfl, e1, e2, by rw [h1.length, h2.length]; assumption, fun z => ?_, fun _ z => ?_, fun _ _ p hp => k _ _ (same_new hp) (rp_newT ml hp (h1.append h2))⟩))
          · subst z
            cases h1
            exact k _ H (Same.refl H) (.tup e2 h2)
          · subst z
            cases h2
            rw [List.append_nil] at k
            exact k _ H (Same.refl H) (.tup e1 h1)
    · cases e
  | _ => simp [fAdd] at e
/-- ==, != of data -/
def strsD : PyData → PyData → Bool
  | .str _, .str _ => true
  | _, _ => false
theorem strsD_of {x y : PyData} (h : strsD x y = true) : ∃ a b, x = .str a ∧ y = .str b := by
  unfold strsD at h
  split at h
  · exact ⟨_, _, rfl, rfl⟩
  · cases h
def fEq (x y : PyData) : Option PyData := if (strsD x y || (SeqAt.shaped x && SeqAt.shaped y)) = true then some (.bool (PyData.eqv x y)) else none
def fNe (x y : PyData) : Option PyData := if (strsD x y || (SeqAt.shaped x && SeqAt.shaped y)) = true then some (.bool (!PyData.eqv x y)) else none
def rEqA (K : KW) : R2 := fun x y H Q => rEq x y H Q ∨ rEqD K x y H Q
def rNeA (K : KW) : R2 := fun x y H Q => rNe x y H Q ∨ rNeD K x y H Q
theorem op_eqA {X : Cx} (hu : X.A.units + 64 < cLine) : OpR X (compareOp .Eq) (rEqA X.kw) := op_eq.or (op_eqD hu)
theorem op_neA {X : Cx} (hu : X.A.units + 64 < cLine) : OpR X (compareOp .NotEq) (rNeA X.kw) := op_ne.or (op_neD hu)
theorem nodict {x : PyData} (h : SeqAt.shaped x = true) : x.hasDict = false := PyData.hasDict_of_canLay x (SeqAt.canLay_of_shaped h)
theorem l_eq : LiftR K (rEqA K) fEq := by
  intro M H x y z v u ml e rx ry Q k
  unfold fEq at e
  split at e
  · cases e
    rename_i h
    rw [Bool.or_eq_true, Bool.and_eq_true] at h
    rcases h with h | h
    · obtain ⟨a, b, rfl, rfl⟩ := strsD_of h
      cases rx
      cases ry
      refine .inl ⟨rfl, ?_⟩
      rw [dec_str]
      exact k _ H (Same.refl H) (.bl _)
    · exact .inr ⟨x, y, Rp.dp x v (nodict h.1) rx, Rp.dp y u (nodict h.2) ry, h.1, h.2, k _ H (Same.refl H) (.bl _)⟩
  · cases e
theorem l_ne : LiftR K (rNeA K) fNe := by
  intro M H x y z v u ml e rx ry Q k
  unfold fNe at e
  split at e
  · cases e
    rename_i h
    rw [Bool.or_eq_true, Bool.and_eq_true] at h
    rcases h with h | h
    · obtain ⟨a, b, rfl, rfl⟩ := strsD_of h
      cases rx
      cases ry
      refine .inl ⟨rfl, ?_⟩
      rw [dec_str]
      exact k _ H (Same.refl H) (.bl _)
    · exact .inr ⟨x, y, Rp.dp x v (nodict h.1) rx, Rp.dp y u (nodict h.2) ry, h.1, h.2, k _ H (Same.refl H) (.bl _)⟩
  · cases e
/-- in, not in: flat items -/
def flatD : PyData → Bool
  | .none => true
  | .bool _ => true
  | .int _ => true
  | .str _ => true
  | _ => false
def itemsD : PyData → Option (List PyData)
  | .list xs => some xs
  | .tuple xs => some xs
  | _ => none
def fIn (neg : Bool) (x y : PyData) : Option PyData := match itemsD y with
  | some ys => if (flatD x && ys.all flatD) = true then some (.bool (if neg = true then !ys.any (fun y => PyData.eqv y x) else ys.any (fun y => PyData.eqv y x))) else none
  | none => none
theorem flat_rp {M : MS} {H : Hp} {x : PyData} {v : V} (r : Rp K M H v x) (h : flatD x = true) : flatV v = true := by
  cases r <;> first | rfl | (simp [flatD] at h)
theorem eqV_eqv {M : MS} {H : Hp} {x y : PyData} {v u : V} (rx : Rp K M H v x) (ry : Rp K M H u y) (hx : flatD x = true) (hy : flatD y = true) : eqV u v = PyData.eqv y x := by
  cases rx <;> first | (simp [flatD] at hx; done) | skip
  all_goals (cases ry <;> first | (simp [flatD] at hy; done) | rfl | (simp [eqV, PyData.eqv]))
theorem flats_rp {M : MS} {H : Hp} : ∀ {ys : List PyData} {vs : List V}, RpAll K M H vs ys → ys.all flatD = true → vs.all flatV = true
  | [], _, .nil, _ => rfl
  | _ :: _, _, .cons r t, h => by
    rw [List.all_cons, Bool.and_eq_true] at h ⊢
    exact ⟨flat_rp r h.1, flats_rp t h.2⟩
theorem inV_any {M : MS} {H : Hp} {x : PyData} {v : V} (rx : Rp K M H v x) (hx : flatD x = true) : ∀ {ys : List PyData} {vs : List V}, RpAll K M H vs ys → ys.all flatD = true → inV v vs = ys.any fun y => PyData.eqv y x
  | [], _, .nil, _ => rfl
  | y :: ys, u :: us, .cons r t, h => by
    rw [List.all_cons, Bool.and_eq_true] at h
    have q := inV_any rx hx t h.2
    unfold inV at q ⊢
    rw [List.any_cons, List.any_cons, q, eqV_eqv rx r hx h.1]
theorem l_in (neg : Bool) : LiftR K (rIn K neg) (fIn neg) := by
  intro M H x y z v u ml e rx ry Q k
  unfold fIn at e
  cases y with
  | list ys =>
    simp only [itemsD] at e
    split at e
    · rename_i h
      rw [Bool.and_eq_true] at h
      cases e
      cases ry with
      | lst n1 e1 h1 =>
        refine ⟨_, _, rfl, .inl (SqL.of e1), flat_rp rx h.1, flats_rp h1 h.2, ?_⟩
        rw [inV_any rx h.1 h1 h.2]
        exact k _ H (Same.refl H) (.bl _)
    · cases e
  | tuple ys =>
    simp only [itemsD] at e
    split at e
    · rename_i h
      rw [Bool.and_eq_true] at h
      cases e
      cases ry with
      | tup e1 h1 =>
        refine ⟨_, _, rfl, .inr e1, flat_rp rx h.1, flats_rp h1 h.2, ?_⟩
        rw [inV_any rx h.1 h1 h.2]
        exact k _ H (Same.refl H) (.bl _)
    · cases e
  | _ => simp [itemsD] at e
/-- of the script; not of an exception -/
def ixD : List (PyData × PyData) → Int → Option PyData
  | (.str _, _) :: _, _ => none
  | kvs, i => (atI kvs i).map (·.1)
def lenD : List (PyData × PyData) → Option PyData
  | (.str _, _) :: _ => none
  | kvs => some (.int kvs.length)
theorem ixD_scr (ns : List Int) (i : Int) : ixD (ns.map fun n => (.int n, .none)) i = (atI (ns.map fun n => ((.int n, .none) : PyData × PyData)) i).map (·.1) := by cases ns <;> rfl
theorem lenD_scr (ns : List Int) : lenD (ns.map fun n => (.int n, .none)) = some (.int ns.length) := by cases ns <;> simp [lenD]
/-- a[i] -/
def fIx : PyData → PyData → Option PyData
  | .list xs, .int i => atI xs i
  | .tuple xs, .int i => atI xs i
  | .str x, .int i => if x.length ≤ sizeLine then (atI x.cps.toList i).map fun c => .str ⟨#[c]⟩ else none
  | .dict kvs, .int i => ixD kvs i
  | _, _ => none
theorem atI_rp {M : MS} {H : Hp} {ds : List PyData} {vs : List V} {i : Int} {d : PyData} (h : RpAll K M H vs ds) (e : atI ds i = some d) : ∃ v, atI vs i = some v ∧ Rp K M H v d := by
  unfold atI at e ⊢
  rw [h.length]
  cases q : ixN ds.length i with
  | none => rw [q] at e; cases e
  | some j =>
    rw [q] at e
    exact h.get e
theorem l_ix : LiftR K (rIx K) fIx := by
  intro M H x y z v u ml e rx ry Q k
  cases y <;> first | (cases x <;> simp [fIx] at e; done) | skip
  cases ry
  cases x with
  | list xs =>
    cases rx with
    | lst n1 e1 h1 =>
      obtain ⟨w, q1, q2⟩ := atI_rp h1 e
      exact .inl ⟨_, _, _, w, rfl, rfl, SqL.of e1, q1, k w H (Same.refl H) q2⟩
  | tuple xs =>
    cases rx with
    | tup e1 h1 =>
      obtain ⟨w, q1, q2⟩ := atI_rp h1 e
      exact .inr (.inl ⟨_, _, _, w, rfl, rfl, e1, q1, k w H (Same.refl H) q2⟩)
  | str s =>
    cases rx
    simp only [fIx] at e
    split at e
    · rename_i hs
      obtain ⟨c, e1, e2⟩ := Option.map_eq_some_iff.mp e
      subst e2
      exact .inr (.inr ⟨_, _, c, rfl, rfl, hs, e1, k _ H (Same.refl H) (.str _)⟩)
    · cases e
  | dict kvs =>
    cases rx with
    | exc e1 =>
      subst e1
      simp [fIx, ixD] at e
    | ins e1 =>
      subst e1
      simp [fIx, ixD] at e
    | @scr p ns _ e1 h1 =>
      subst e1
      simp only [fIx, ixD_scr] at e
      obtain ⟨c, e2, e3⟩ := Option.map_eq_some_iff.mp e
      unfold atI at e2
      rw [List.length_map] at e2
      rename_i i
      cases q : ixN ns.length i with
      | none => rw [q] at e2; cases e2
      | some j =>
        rw [q] at e2
        have e4 : (ns.map fun n => ((PyData.int n, PyData.none) : PyData × PyData))[j]? = some c := e2
        rw [List.getElem?_map] at e4
        obtain ⟨n, e5, e6⟩ := Option.map_eq_some_iff.mp e4
        subst e6
        subst e3
        have hS : SqL K H p (ns.map V.int) := by
          rcases h1 with ⟨_, h1⟩ | h1
          · exact .inl h1
          · exact h1 H
        refine .inl ⟨_, _, _, V.int n, rfl, rfl, hS, ?_, k _ H (Same.refl H) (.int n)⟩
        unfold atI
        rw [List.length_map, q]
        show (ns.map V.int)[j]? = some (V.int n)
        rw [List.getElem?_map, e5]
        rfl
  | _ => simp [fIx] at e
theorem d_ix (ha : PEd Z X a ta wa) (hb : PEd Z X b tb wb) (hs : PlainIx b := by exact fun _ _ => rfl) : PEd Z X (.Subscript a b pos) (tOp (rIx X.K) ta tb) (wBin fIx wa wb) := ⟨pe_ix ix_seq ha.p hb.p hs, imp_op l_ix ha.i hb.i⟩

/-! ### one-place operations -/
def wUn (f : PyData → Option PyData) (wa : WE) : WE := fun ρ P => wa ρ fun x ρ1 => ∃ z, f x = some z ∧ P z ρ1
def LiftU (K : KW) (r : V → Hp → VK → Prop) (f : PyData → Option PyData) : Prop := ∀ (M : MS) (H : Hp) x z v, (∀ a, M a → Mut (H a)) → f x = some z → Rp K M H v x → ∀ Q : VK, (∀ v' H', Same H H' → Rp K M H' v' z → Q v' H') → r v H Q
theorem imp_un {r : V → Hp → VK → Prop} {f : PyData → Option PyData} (l : LiftU K r f) (ha : ImpE Z K ta wa) : ImpE Z K (tUn r ta) (wUn f wa) := by
  intro F G M σ H ρ R P hw Q k
  refine ha F G M σ H ρ R _ hw _ fun x ρ1 v M1 H1 R1 r1 ⟨z, e, hp⟩ => ?_
  exact l M1 H1 x z v R1.ml e r1 Q fun v' H3 s r3 => k z ρ1 v' M1 H3 (R1.same s) r3 hp
def fNeg : PyData → Option PyData
  | .int i => some (.int (-i))
  | _ => none
theorem d_neg (ha : PEd Z X a ta wa) : PEd Z X (.UnaryOp .USub a pos) (tUn (rU fun i => .int (-i)) ta) (wUn fNeg wa) := by
  refine ⟨pe_un un_neg ha.p, imp_un ?_ ha.i⟩
  intro M H x z v ml e r Q k
  cases r <;> simp [fNeg] at e
  subst e
  exact ⟨_, rfl, k _ H (Same.refl H) (.int _)⟩

/-! ### tests -/
def wTest (w : WE) : WT := fun ρ P => w ρ fun x ρ1 => ∃ b, x = .bool b ∧ P b ρ1
theorem imp_test (ha : ImpE Z K ta wa) : ImpT Z K (tTest ta) (wTest wa) := by
  intro F G M σ H ρ R P hw Q k
  refine ha F G M σ H ρ R _ hw _ fun x ρ1 v M1 H1 R1 r1 ⟨b, e, hp⟩ => ?_
  subst e
  cases r1
  exact ⟨b, rfl, k b ρ1 M1 H1 R1 hp⟩
theorem imp_B (ha : ImpE Z K ta wa) : ImpT Z K (tB ta) (wTest wa) := imp_test ha
theorem c_val (h : PEd Z X e te we) (he : ∀ whole, isTrue e X.env whole = (do let v ← whole; standAt e.pos; holding [v] (truthy v)) := by intro _; rfl) : PTd Z X e (tB te) (wTest we) := ⟨pt_val h.p he, imp_B h.i⟩
theorem c_cmp {op : CmpOp} {r : R2} {f : PyData → PyData → Option PyData} (ho : OpR X (compareOp op) r) (l : LiftR X.kw r f) (ha : PEd Z X a ta wa) (hb : PEd Z X b tb wb) (hm : behindInMarks op b = false) : PTd Z X (.Compare a [op] [b] pos) (tTest (tOp r ta tb)) (wTest (wBin f wa wb)) :=
  ⟨pt_cmpR ho ha.p hb.p hm, imp_test (imp_op l ha.i hb.i)⟩
def wAnd (w u : WT) : WT := fun ρ P => w ρ fun b ρ1 => if b = true then u ρ1 P else P false ρ1
def wOr (w u : WT) : WT := fun ρ P => w ρ fun b ρ1 => if b = true then P true ρ1 else u ρ1 P
def wNot (w : WT) : WT := fun ρ P => w ρ fun b ρ1 => P (!b) ρ1
variable {tt tu : TT} {wt wu : WT} {rest : List Expr}
theorem imp_and (h1 : ImpT Z K tt wt) (h2 : ImpT Z K tu wu) : ImpT Z K (tAnd tt tu) (wAnd wt wu) := by
  intro F G M σ H ρ R P hw Q k
  refine h1 F G M σ H ρ R _ hw _ fun b ρ1 M1 H1 R1 q => ?_
  cases b with
  | true =>
    rw [if_pos rfl] at q
    show tu σ H1 Q
    exact h2 F G M1 σ H1 ρ1 R1 _ q _ k
  | false =>
    rw [if_neg Bool.false_ne_true] at q
    exact k false ρ1 M1 H1 R1 q
theorem imp_or (h1 : ImpT Z K tt wt) (h2 : ImpT Z K tu wu) : ImpT Z K (tOr tt tu) (wOr wt wu) := by
  intro F G M σ H ρ R P hw Q k
  refine h1 F G M σ H ρ R _ hw _ fun b ρ1 M1 H1 R1 q => ?_
  cases b with
  | true =>
    rw [if_pos rfl] at q
    exact k true ρ1 M1 H1 R1 q
  | false =>
    rw [if_neg Bool.false_ne_true] at q
    show tu σ H1 Q
    exact h2 F G M1 σ H1 ρ1 R1 _ q _ k
theorem imp_not (h1 : ImpT Z K tt wt) : ImpT Z K (tNot tt) (wNot wt) := by
  intro F G M σ H ρ R P hw Q k
  exact h1 F G M σ H ρ R _ hw _ fun b ρ1 M1 H1 R1 q => k _ ρ1 M1 H1 R1 q
theorem c_and1 (h : PTd Z X a tt wt) : PWd Z X (.BoolOp .And [a] pos) tt wt := ⟨pw_and1 h.p, h.i⟩
theorem c_or1 (h : PTd Z X a tt wt) : PWd Z X (.BoolOp .Or [a] pos) tt wt := ⟨pw_or1 h.p, h.i⟩
theorem c_and (h : PTd Z X a tt wt) (h2 : PWd Z X (.BoolOp .And (b :: rest) pos) tu wu) : PWd Z X (.BoolOp .And (a :: b :: rest) pos) (tAnd tt tu) (wAnd wt wu) := ⟨pw_and h.p h2.p, imp_and h.i h2.i⟩
theorem c_or (h : PTd Z X a tt wt) (h2 : PWd Z X (.BoolOp .Or (b :: rest) pos) tu wu) : PWd Z X (.BoolOp .Or (a :: b :: rest) pos) (tOr tt tu) (wOr wt wu) := ⟨pw_or h.p h2.p, imp_or h.i h2.i⟩
theorem c_not (h : PTd Z X a tt wt) : PTd Z X (.UnaryOp .Not a pos) (tNot tt) (wNot wt) := ⟨pt_not h.p, imp_not h.i⟩
theorem c_w (h : PWd Z X a tt wt) : PTd Z X a tt wt := ⟨h.p.pt, h.i⟩
/-- as values -/
def wAndV (wa wb : WE) : WE := fun ρ P => wa ρ fun x ρ1 => ∃ c, x = .bool c ∧ if c = true then wb ρ1 P else P (.bool false) ρ1
def wOrV (wa wb : WE) : WE := fun ρ P => wa ρ fun x ρ1 => ∃ c, x = .bool c ∧ if c = true then P (.bool true) ρ1 else wb ρ1 P
def wNotV (wa : WE) : WE := fun ρ P => wa ρ fun x ρ1 => ∃ c, x = .bool c ∧ P (.bool (!c)) ρ1
theorem d_one {op} (h : PEd Z X a ta wa) : PEd Z X (.BoolOp op [a] pos) ta wa := ⟨pe_one h.p, h.i⟩
theorem d_and (ha : PEd Z X a ta wa) (hb : PEd Z X (.BoolOp .And (b :: rest) pos) tb wb) : PEd Z X (.BoolOp .And (a :: b :: rest) pos) (tAndV ta tb) (wAndV wa wb) := by
  refine ⟨pe_and ha.p hb.p, ?_⟩
  intro F G M σ H ρ R P hw Q k
  refine ha.i F G M σ H ρ R _ hw _ fun x ρ1 v M1 H1 R1 r1 ⟨c, e, q⟩ => ?_
  subst e
  cases r1
  refine ⟨c, rfl, ?_⟩
  cases c with
  | true =>
    rw [if_pos rfl] at q
    show tb σ H1 Q
    exact hb.i F G M1 σ H1 ρ1 R1 _ q _ k
  | false =>
    rw [if_neg Bool.false_ne_true] at q
    exact k _ ρ1 _ M1 H1 R1 (.bl _) q
theorem d_or (ha : PEd Z X a ta wa) (hb : PEd Z X (.BoolOp .Or (b :: rest) pos) tb wb) : PEd Z X (.BoolOp .Or (a :: b :: rest) pos) (tOrV ta tb) (wOrV wa wb) := by
  refine ⟨pe_or ha.p hb.p, ?_⟩
  intro F G M σ H ρ R P hw Q k
  refine ha.i F G M σ H ρ R _ hw _ fun x ρ1 v M1 H1 R1 r1 ⟨c, e, q⟩ => ?_
  subst e
  cases r1
  refine ⟨c, rfl, ?_⟩
  cases c with
  | true =>
    rw [if_pos rfl] at q
    exact k _ ρ1 _ M1 H1 R1 (.bl _) q
  | false =>
    rw [if_neg Bool.false_ne_true] at q
    show tb σ H1 Q
    exact hb.i F G M1 σ H1 ρ1 R1 _ q _ k
theorem d_not (ha : PEd Z X a ta wa) : PEd Z X (.UnaryOp .Not a pos) (tNotV ta) (wNotV wa) := by
  refine ⟨pe_not ha.p, ?_⟩
  intro F G M σ H ρ R P hw Q k
  refine ha.i F G M σ H ρ R _ hw _ fun x ρ1 v M1 H1 R1 r1 ⟨c, e, q⟩ => ?_
  subst e
  cases r1
  exact ⟨c, rfl, k _ ρ1 _ M1 H1 R1 (.bl _) q⟩
def wIf (w : WT) (wa wb : WE) : WE := fun ρ P => w ρ fun b ρ1 => if b = true then wa ρ1 P else wb ρ1 P
theorem d_if (hc : PTd Z X c tt wt) (ha : PEd Z X a ta wa) (hb : PEd Z X b tb wb) : PEd Z X (.IfExp c a b pos) (tIf tt ta tb) (wIf wt wa wb) := by
  refine ⟨pe_ifExp hc.p ha.p hb.p, ?_⟩
  intro F G M σ H ρ R P hw Q k
  refine hc.i F G M σ H ρ R _ hw _ fun d ρ1 M1 H1 R1 q => ?_
  cases d with
  | true =>
    rw [if_pos rfl] at q
    show ta σ H1 Q
    exact ha.i F G M1 σ H1 ρ1 R1 _ q _ k
  | false =>
    rw [if_neg Bool.false_ne_true] at q
    show tb σ H1 Q
    exact hb.i F G M1 σ H1 ρ1 R1 _ q _ k
/-- a < b < c, as a test and a value -/
def wChain (f g : PyData → PyData → Option PyData) (wa wb wc : WE) : WE := fun ρ P => wa ρ fun x ρ1 => wb ρ1 fun y ρ2 => ∃ d, f x y = some (.bool d) ∧ if d = true then wc ρ2 fun z ρ3 => ∃ u, g y z = some u ∧ P u ρ3 else P (.bool false) ρ2
theorem imp_chain {r r' : R2} {f g : PyData → PyData → Option PyData} (l : LiftR K r f) (l' : LiftR K r' g) (ha : ImpE Z K ta wa) (hb : ImpE Z K tb wb) (hc : ImpE Z K tc wc) : ImpE Z K (tChain r r' ta tb tc) (wChain f g wa wb wc) := by
  intro F G M σ H ρ R P hw Q k
  refine ha F G M σ H ρ R _ hw _ fun x ρ1 v M1 H1 R1 r1 hw1 => ?_
  refine hb F _ M1 σ H1 ρ1 (R1.push r1) _ hw1 _ fun y ρ2 u M2 H2 R2 r2 ⟨d, e, q⟩ => ?_
  refine l M2 H2 x y _ v u R2.ml e R2.r.topD r2 _ fun v' H3 s r3 => ?_
  cases r3
  refine ⟨d, rfl, ?_⟩
  cases d with
  | true =>
    rw [if_pos rfl] at q
    have R3 : RepX Z K F G M2 H3 σ ρ2 := R.to (R2.r.pop.same s)
    rw [if_pos rfl]
    refine hc F _ M2 σ H3 ρ2 (R3.push (r2.same R2.ml s)) _ q _ fun z ρ3 w' M4 H4 R4 r4 ⟨o, e2, hp⟩ => ?_
    refine l' M4 H4 y z o u w' R4.ml e2 R4.r.topD r4 Q fun v5 H5 s5 r5 => ?_
    exact k o ρ3 v5 M4 H5 (R.to (R4.r.pop.same s5)) r5 hp
  | false =>
    rw [if_neg Bool.false_ne_true] at q ⊢
    exact k _ ρ2 _ M2 H3 (R.to (R2.r.pop.same s)) (.bl _) q

/-! ### argument lists, displays -/
def wNil : WA := fun ρ P => P [] ρ
def wCons (wa : WE) (wr : WA) : WA := fun ρ P => wa ρ fun x ρ1 => wr ρ1 fun xs ρ2 => P (x :: xs) ρ2
variable {tr : TA} {wr : WA}
theorem imp_nil : ImpA Z K tNil wNil := fun F G M σ H ρ R P hp Q k => k [] ρ [] M H R .nil hp
theorem imp_cons (ha : ImpE Z K ta wa) (hr : ImpA Z K tr wr) : ImpA Z K (tCons ta tr) (wCons wa wr) := by
  intro F G M σ H ρ R P hw Q k
  refine ha F G M σ H ρ R _ hw _ fun x ρ1 v M1 H1 R1 r1 hw1 => ?_
  refine hr F _ M1 σ H1 ρ1 (R1.push r1) _ hw1 _ fun xs ρ2 vs M2 H2 R2 r2 q => ?_
  exact k _ ρ2 _ M2 H2 (R.to R2.r.pop) (.cons R2.r.topD r2) q
theorem a_nil : PAd Z X [] tNil wNil := ⟨pa_nil, imp_nil⟩
theorem a_cons (ha : PEd Z X e te we) (hr : PAd Z X es tr wr) (hs : starEach (e :: es) X.env = (false, eval e X.env) :: starEach es X.env := by rfl) : PAd Z X (e :: es) (tCons te tr) (wCons we wr) := ⟨pa_cons ha.p hr.p hs, imp_cons ha.i hr.i⟩
def wTup (wr : WA) : WE := fun ρ P => wr ρ fun xs ρ1 => xs.length ≤ sizeLine ∧ P (.tuple xs) ρ1
def wLst (wr : WA) : WE := fun ρ P => wr ρ fun xs ρ1 => xs.length ≤ sizeLine ∧ P (.list xs) ρ1
theorem d_tup {x1} (h : PAd Z X es tr wr) : PEd Z X (.Tuple es x1 pos) (tTup tr) (wTup wr) := by
  refine ⟨pe_tup h.p, ?_⟩
  intro F G M σ H ρ R P hw Q k
  refine h.i F G M σ H ρ R _ hw _ fun xs ρ1 vs M1 H1 R1 r1 ⟨hl, q⟩ => ⟨by rw [r1.length]; exact hl, fun p hp => ?_⟩
  exact k _ ρ1 _ M1 _ (R1.same (same_new hp)) (rp_newT R1.ml hp r1) q
theorem d_lst (h : PAd Z X es tr wr) : PEd Z X (.List es pos) (tLst tr) (wLst wr) := by
  refine ⟨pe_lst h.p, ?_⟩
  intro F G M σ H ρ R P hw Q k
  refine h.i F G M σ H ρ R _ hw _ fun xs ρ1 vs M1 H1 R1 r1 ⟨hl, q⟩ => ⟨by rw [r1.length]; exact hl, fun p hp => ?_⟩
  exact k _ ρ1 _ M1 _ (R1.same (same_new hp)) (rp_newL R1.ml hp r1) q

/-! ### calls of what is built in -/
def wCB (f : List PyData → Option PyData) (wr : WA) : WE := fun ρ P => wr ρ fun xs ρ1 => ∃ z, f xs = some z ∧ P z ρ1
def LiftC (K : KW) (r : List V → Hp → VK → Prop) (f : List PyData → Option PyData) : Prop := ∀ (M : MS) (H : Hp) xs z vs, (∀ a, M a → Mut (H a)) → f xs = some z → RpAll K M H vs xs → ∀ Q : VK, (∀ v' H', Same H H' → Rp K M H' v' z → Q v' H') → r vs H Q
theorem imp_cb {r : List V → Hp → VK → Prop} {f : List PyData → Option PyData} (l : LiftC K r f) (hr : ImpA Z K tr wr) : ImpE Z K (tCB r tr) (wCB f wr) := by
  intro F G M σ H ρ R P hw Q k
  refine hr F G M σ H ρ R _ hw _ fun xs ρ1 vs M1 H1 R1 r1 ⟨z, e, hp⟩ => ?_
  exact l M1 H1 xs z vs R1.ml e r1 Q fun v' H3 s r3 => k z ρ1 v' M1 H3 (R1.same s) r3 hp
def f1 (f : PyData → Option PyData) : List PyData → Option PyData
  | [x] => f x
  | _ => none
def f2 (f : PyData → PyData → Option PyData) : List PyData → Option PyData
  | [x, y] => f x y
  | _ => none
theorem f1_some {f : PyData → Option PyData} {xs : List PyData} {z : PyData} (h : f1 f xs = some z) : ∃ x, xs = [x] ∧ f x = some z := by
  match xs, h with
  | [x], h => exact ⟨x, rfl, h⟩
theorem f2_some {f : PyData → PyData → Option PyData} {xs : List PyData} {z : PyData} (h : f2 f xs = some z) : ∃ x y, xs = [x, y] ∧ f x y = some z := by
  match xs, h with
  | [x, y], h => exact ⟨x, y, rfl, h⟩
def fAbs : PyData → Option PyData
  | .int i => some (.int (if i < 0 then -i else i))
  | _ => none
theorem l_abs : LiftC K (fun xs H Q => ∃ i, xs = [.int i] ∧ Q (.int (if i < 0 then -i else i)) H) (f1 fAbs) := by
  intro M H xs z vs ml e r Q k
  replace e := f1_some e
  obtain ⟨x, rfl, e⟩ := e
  cases r with
  | cons r t =>
    cases t
    cases r <;> simp [fAbs] at e
    subst e
    exact ⟨_, rfl, k _ H (Same.refl H) (.int _)⟩
theorem l_max : LiftC K (fun xs H Q => ∃ i j, xs = [.int i, .int j] ∧ Q (.int (if j > i then j else i)) H) (f2 (intF fun i j => some (.int (if j > i then j else i)))) := by
  intro M H xs z vs ml e r Q k
  replace e := f2_some e
  obtain ⟨x, y, rfl, e⟩ := e
  replace e := intF_some e
  obtain ⟨i, j, rfl, rfl, e⟩ := e
  cases e
  cases r with
  | cons r t =>
    cases t with
    | cons r2 t =>
      cases t
      cases r
      cases r2
      exact ⟨_, _, rfl, k _ H (Same.refl H) (.int _)⟩
theorem l_min : LiftC K (fun xs H Q => ∃ i j, xs = [.int i, .int j] ∧ Q (.int (if j < i then j else i)) H) (f2 (intF fun i j => some (.int (if j < i then j else i)))) := by
  intro M H xs z vs ml e r Q k
  replace e := f2_some e
  obtain ⟨x, y, rfl, e⟩ := e
  replace e := intF_some e
  obtain ⟨i, j, rfl, rfl, e⟩ := e
  cases e
  cases r with
  | cons r t =>
    cases t with
    | cons r2 t =>
      cases t
      cases r
      cases r2
      exact ⟨_, _, rfl, k _ H (Same.refl H) (.int _)⟩
def fLen : PyData → Option PyData
  | .list xs => some (.int xs.length)
  | .tuple xs => some (.int xs.length)
  | .str x => if x.length ≤ sizeLine then some (.int x.length) else none
  | .dict kvs => lenD kvs
  | _ => none
theorem l_len : LiftC K (fun xs H Q => ∃ x n, xs = [x] ∧ LenV K x H n ∧ Q (.int n) H) (f1 fLen) := by
  intro M H xs z vs ml e r Q k
  replace e := f1_some e
  obtain ⟨x, rfl, e⟩ := e
  cases r with
  | cons r t =>
    cases t
    cases r with
    | lst n1 e1 h1 =>
      simp only [fLen] at e
      cases e
      exact ⟨_, _, rfl, .inl ⟨_, SqL.of e1, rfl⟩, by rw [h1.length]; exact k _ H (Same.refl H) (.int _)⟩
    | tup e1 h1 =>
      simp only [fLen] at e
      cases e
      exact ⟨_, _, rfl, .inr ⟨_, e1, rfl⟩, by rw [h1.length]; exact k _ H (Same.refl H) (.int _)⟩
    | str x =>
      simp only [fLen] at e
      split at e
      · cases e
        exact ⟨_, _, rfl, ⟨by assumption, rfl⟩, k _ H (Same.refl H) (.int _)⟩
      · cases e
    | exc e1 =>
      subst e1
      simp [fLen, lenD] at e
    | ins e1 =>
      subst e1
      simp [fLen, lenD] at e
    | @scr p ns _ e1 h1 =>
      subst e1
      simp only [fLen, lenD_scr] at e
      cases e
      have hS : SqL K H p (ns.map V.int) := by
        rcases h1 with ⟨_, h1⟩ | h1
        · exact .inl h1
        · exact h1 H
      exact ⟨_, _, rfl, .inl ⟨_, hS, rfl⟩, by rw [List.length_map]; exact k _ H (Same.refl H) (.int _)⟩
    | _ => simp [fLen] at e
def fTuple : PyData → Option PyData
  | .list xs => some (.tuple xs)
  | .tuple xs => some (.tuple xs)
  | _ => none
theorem l_tuple : LiftC K (fun xs H Q => ∃ p ys, xs = [.ref p] ∧ ((SqL K H p ys ∧ ∀ l, H l = none → Q (.ref l) (upd H l (.tup ys))) ∨ (SqT K H p ys ∧ Q (.ref p) H))) (f1 fTuple) := by
  intro M H xs z vs ml e r Q k
  replace e := f1_some e
  obtain ⟨x, rfl, e⟩ := e
  cases r with
  | cons r t =>
    cases t
    cases r with
    | lst n1 e1 h1 =>
      simp only [fTuple] at e
      cases e
      exact ⟨_, _, rfl, .inl ⟨SqL.of e1, fun l hl => k _ _ (same_new hl) (rp_newT ml hl h1)⟩⟩
    | tup e1 h1 =>
      simp only [fTuple] at e
      cases e
      exact ⟨_, _, rfl, .inr ⟨e1, k _ H (Same.refl H) (.tup e1 h1)⟩⟩
    | _ => simp [fTuple] at e
def fList : PyData → Option PyData
  | .list xs => some (.list xs)
  | .tuple xs => some (.list xs)
  | _ => none
theorem l_list : LiftC K (fun xs H Q => ∃ p ys, xs = [.ref p] ∧ (SqL K H p ys ∨ SqT K H p ys) ∧ ∀ l, H l = none → Q (.ref l) (upd H l (.lst ys))) (f1 fList) := by
  intro M H xs z vs ml e r Q k
  replace e := f1_some e
  obtain ⟨x, rfl, e⟩ := e
  cases r with
  | cons r t =>
    cases t
    cases r with
    | lst n1 e1 h1 =>
      simp only [fList] at e
      cases e
      exact ⟨_, _, rfl, .inl (SqL.of e1), fun l hl => k _ _ (same_new hl) (rp_newL ml hl h1)⟩
    | tup e1 h1 =>
      simp only [fList] at e
      cases e
      exact ⟨_, _, rfl, .inr e1, fun l hl => k _ _ (same_new hl) (rp_newL ml hl h1)⟩
    | _ => simp [fList] at e
theorem d_cb {id : String} {x : Str} {p : Pos} {r : List V → Hp → VK → Prop} {f : List PyData → Option PyData} (hc : CallR X (.builtin id) r) (l : LiftC X.kw r f) (hg : Gl X x) (hm : X.mg x = none) (hv : bootBuiltins x = some (.builtin id)) (ha : PAd Z X (e :: es) tr wr) (hn : x ≠ "__name__" := by decide) (hdb : (x == ("__debug__" : Str)) = false := by decide)
    (he : starEach (e :: es) X.env = (false, eval e X.env) :: starEach es X.env := by rfl) (hpl : (backTo pos (starEach es X.env)).any (·.1) = false := by rfl) : PEd Z X (.Call (.Name x p) (e :: es) [] pos) (tCB r tr) (wCB f wr) := ⟨pe_callB hc hg hm hv ha.p hn hdb he hpl, imp_cb l ha.i⟩
theorem d_cty {T : String} {x : Str} {p : Pos} {r : List V → Hp → VK → Prop} {f : List PyData → Option PyData} (hc : CallR X (.type T) r) (l : LiftC X.kw r f) (hg : Gl X x) (hm : X.mg x = none) (hv : bootBuiltins x = some (.type T)) (ha : PAd Z X (e :: es) tr wr) (hn : x ≠ "__name__" := by decide) (hdb : (x == ("__debug__" : Str)) = false := by decide)
    (he : starEach (e :: es) X.env = (false, eval e X.env) :: starEach es X.env := by rfl) (hpl : (backTo pos (starEach es X.env)).any (·.1) = false := by rfl) : PEd Z X (.Call (.Name x p) (e :: es) [] pos) (tCB r tr) (wCB f wr) := ⟨pe_callTy hc hg hm hv ha.p hn hdb he hpl, imp_cb l ha.i⟩
end
end Dat
set_option Elab.async false
set_option linter.all false
set_option maxRecDepth 100000
set_option maxHeartbeats 4000000
namespace Dat
open PySem PySem.Spec PyProof.Rows L2
section
variable {Z : XC} {K : KW} {X : Cx} {a b c e : Expr} {es : List Expr} {ta tb tc te : TE} {wa wb wc we : WE} {pos : Pos} {tt : TT} {wt : WT} {tr : TA} {wr : WA}
variable {st : Stmt} {rest : List Stmt} {t u : TS} {w w2 : WS}

/-! ### blocks -/
def wNext : WS := fun E ρ => E.nx ρ
def wSeq (w w2 : WS) : WS := fun E ρ => w { E with nx := w2 E } ρ
theorem imp_seq (h1 : ImpS Z K t w) (h2 : ImpS Z K u w2) : ImpS Z K (tSeq t u) (wSeq w w2) := by
  intro F G M σ H ρ R E hw D cn
  refine h1 F G M σ H ρ R { E with nx := w2 E } hw { D with nx := u D } ⟨fun ρ' M' σ' H' R' q => ?_, cn.rt, cn.bk, cn.ct, cn.rl⟩
  exact h2 F G M' σ' H' ρ' (R.to R') E q D cn
theorem b_nil : PBd Z X [] tNext wNext := ⟨pss_nil, fun F G M σ H ρ R E hw D cn => cn.nx ρ M σ H R.r hw⟩
theorem b_cons (h1 : PSd Z X st t w) (h2 : PBd Z X rest u w2) : PBd Z X (st :: rest) (tSeq t u) (wSeq w w2) := ⟨pss_cons h1.p h2.p, imp_seq h1.i h2.i⟩
theorem b_one (h1 : PSd Z X st t w) : PBd Z X [st] t w := ⟨pss_one h1.p, h1.i⟩
theorem s_pass : PSd Z X (.Pass pos) tNext wNext := ⟨ps_pass, fun F G M σ H ρ R E hw D cn => cn.nx ρ M σ H R.r hw⟩
def wBrk : WS := fun E ρ => E.bk ρ
def wCnt : WS := fun E ρ => E.ct ρ
theorem s_break : PSd Z X (.Break pos) tBreak wBrk := ⟨ps_break, fun F G M σ H ρ R E hw D cn => cn.bk ρ M σ H R.r hw⟩
theorem s_continue : PSd Z X (.Continue pos) tCont wCnt := ⟨ps_continue, fun F G M σ H ρ R E hw D cn => cn.ct ρ M σ H R.r hw⟩
def wNever : WS := fun _ _ => False
theorem s_never : PSd Z X st tNever wNever := ⟨ps_never, fun _ _ _ _ _ _ _ _ h => h.elim⟩
theorem b_never {sts : List Stmt} : PBd Z X sts tNever wNever := ⟨pss_never, fun _ _ _ _ _ _ _ _ h => h.elim⟩
def wDrop (we : WE) : WS := fun E ρ => we ρ fun _ ρ1 => E.nx ρ1
theorem s_expr (he : PEd Z X e te we) (hs : swapsWith e none pos.line X.env = pure false := by rfl) : PSd Z X (.Expr e pos) (tDrop te) (wDrop we) :=
  ⟨ps_expr he.p hs, fun F G M σ H ρ R E hw D cn => he.i F G M σ H ρ R _ hw _ fun x ρ1 v M1 H1 R1 r1 q => cn.nx ρ1 M1 σ H1 R1.r q⟩
def wRet (we : WE) : WS := fun E ρ => we ρ fun x ρ1 => E.rt x ρ1
theorem s_ret (he : PEd Z X e te we) : PSd Z X (.Return (some e) pos) (tRet te) (wRet we) :=
  ⟨ps_ret he.p, fun F G M σ H ρ R E hw D cn => he.i F G M σ H ρ R _ hw _ fun x ρ1 v M1 H1 R1 r1 q => cn.rt x ρ1 v M1 σ H1 R1.r r1 q⟩
def wIfS (wt : WT) (w w2 : WS) : WS := fun E ρ => wt ρ fun b ρ1 => if b = true then w E ρ1 else w2 E ρ1
theorem s_if {c : Expr} {a b : List Stmt} (hc : PTd Z X c tt wt) (ha : PBd Z X a t w) (hb : PBd Z X b u w2) : PSd Z X (.If c a b pos) (tIfS tt t u) (wIfS wt w w2) := by
  refine ⟨ps_if hc.p ha.p hb.p, fun F G M σ H ρ R E hw D cn => ?_⟩
  refine hc.i F G M σ H ρ R _ hw _ fun d ρ1 M1 H1 R1 q => ?_
  cases d with
  | true =>
    rw [if_pos rfl] at q
    show t D σ H1
    exact ha.i F G M1 σ H1 ρ1 R1 E q D cn
  | false =>
    rw [if_neg Bool.false_ne_true] at q
    show u D σ H1
    exact hb.i F G M1 σ H1 ρ1 R1 E q D cn

/-! ### targets -/
abbrev WG := PyData → DE → (DE → Prop) → Prop
def ImpG (K : KW) (g : TG) (wg : WG) : Prop := ∀ (F : Frm) (G : List (V × T)) (M : MS) (σ : L2.St) (H : Hp) (ρ : DE), RepS K F G M H σ ρ → ∀ x v, Rp K M H v x → ∀ P, wg x ρ P → ∀ Q : L2.St → Hp → Prop,
  (∀ ρ' σ' H', RepS K F G M H' σ' ρ' → Same H H' → P ρ' → Q σ' H') → g v σ H Q
structure PGd (X : Cx) (tg : Expr) (g : TG) (wg : WG) : Prop where
  p : PG X tg g
  i : ImpG X.kw g wg
def wName (i : Nat) : WG := fun x ρ P => P (ρ.set i (some (.d x)))
theorem imp_name (i : Nat) : ImpG K (gName i) (wName i) := fun F G M σ H ρ R x v r P hp Q k => k _ _ H (R.put i r) (Same.refl H) hp
theorem g_name {i : Nat} {x : Str} (hN : X.N.Nodup) (hi : X.N[i]? = some x) (hx : Loc X.env.scope x) (hf : X.fn x = true ∨ X.env.scope.names.lookup x = some .local := by first | exact .inl rfl | exact .inr rfl | assumption) : PGd X (.Name x pos) (gName i) (wName i) := ⟨pg_name hN hi hx hf, imp_name i⟩
/-- several names -/
abbrev WGs := List PyData → DE → (DE → Prop) → Prop
def ImpGs (K : KW) (g : TGs) (wg : WGs) : Prop := ∀ (F : Frm) (G : List (V × T)) (M : MS) (σ : L2.St) (H : Hp) (ρ : DE), RepS K F G M H σ ρ → ∀ xs vs, RpAll K M H vs xs → ∀ P, wg xs ρ P → ∀ Q : L2.St → Hp → Prop,
  (∀ ρ' σ' H', RepS K F G M H' σ' ρ' → Same H H' → P ρ' → Q σ' H') → g vs σ H Q
structure PGsd (X : Cx) (ts : List Expr) (g : TGs) (wg : WGs) : Prop where
  p : PGs X ts g
  i : ImpGs X.kw g wg
def wgNil : WGs := fun xs ρ P => xs = [] ∧ P ρ
def wgCons (wg : WG) (wr : WGs) : WGs := fun xs ρ P => ∃ x r, xs = x :: r ∧ wg x ρ fun ρ1 => wr r ρ1 P
theorem gs_nil : PGsd X [] gNil wgNil := by
  refine ⟨pgs_nil, fun F G M σ H ρ R xs vs r P hp Q k => ?_⟩
  obtain ⟨e, hp⟩ := hp
  subst e
  cases r
  exact ⟨rfl, k ρ σ H R (Same.refl H) hp⟩
theorem gs_cons {g : TG} {gr : TGs} {wg : WG} {wgr : WGs} (h1 : PGd X e g wg) (h2 : PGsd X es gr wgr)
    (hs : (assignEach (e :: es) X.env).map (·.2) = assign e X.env :: (assignEach es X.env).map (·.2) := by rfl) : PGsd X (e :: es) (gCons g gr) (wgCons wg wgr) := by
  refine ⟨pgs_cons h1.p h2.p hs, fun F G M σ H ρ R xs vs r P hp Q k => ?_⟩
  obtain ⟨x, xr, e, hp⟩ := hp
  subst e
  cases r with
  | cons r1 r2 =>
    refine ⟨_, _, rfl, h1.i F G M σ H ρ R _ _ r1 _ hp _ fun ρ1 σ1 H1 R1 s1 q1 => ?_⟩
    exact h2.i F G M σ1 H1 ρ1 R1 _ _ (r2.same R.ml s1) _ q1 _ fun ρ2 σ2 H2 R2 s2 q2 => k ρ2 σ2 H2 R2 (s1.trans s2) q2
def wgTup (n : Nat) (wg : WGs) : WG := fun x ρ P => ∃ xs, x = .tuple xs ∧ xs.length = n ∧ wg xs ρ P
theorem g_tup {k : Nat} {g : TGs} {wg : WGs} {n : Nat} (hc : X.calm = true) (h : PGsd X es g wg)
    (hn : (assignEach es X.env).length = n := by rfl) (hst : (assignEach es X.env).findIdx? (·.1) = none := by rfl) : PGd X (.Tuple es k pos) (gTup X.K n g) (wgTup n wg) := by
  refine ⟨pg_tup hc h.p hn hst, fun F G M σ H ρ R x v r P hp Q kk => ?_⟩
  obtain ⟨xs, e, hl, hp⟩ := hp
  subst e
  cases r with
  | tup e1 h1 => exact ⟨_, _, rfl, e1, by rw [h1.length]; exact hl, h.i F G M σ H ρ R xs _ h1 P hp Q kk⟩

/-! ### assignments -/
def wAsg (we : WE) (wg : WG) : WS := fun E ρ => we ρ fun x ρ1 => wg x ρ1 E.nx
theorem imp_asg {g : TG} {wg : WG} (he : ImpE Z K te we) (hg : ImpG K g wg) : ImpS Z K (tAsg te g) (wAsg we wg) := by
  intro F G M σ H ρ R E hw D cn
  refine he F G M σ H ρ R _ hw _ fun x ρ1 v M1 H1 R1 r1 q => ?_
  exact hg F G M1 σ H1 ρ1 R1.r x v r1 _ q _ fun ρ2 σ2 H2 R2 s2 q2 => cn.nx ρ2 M1 σ2 H2 R2 q2
theorem s_asg {tg : Expr} {g : TG} {wg : WG} (he : PEd Z X e te we) (hg : PGd X tg g wg) (hs : swapsWithSole [tg] e pos.line X.env = pure false := by rfl) (hw : swappedStores [tg] e X.env = pure none := by rfl)
    (h1 : (assignEach [tg] X.env).map (·.2) = [assign tg X.env] := by rfl) : PSd Z X (.Assign [tg] e pos) (tAsg te g) (wAsg we wg) := ⟨ps_asg he.p hg.p hs hw h1, imp_asg he.i hg.i⟩
theorem s_set {i : Nat} {x : Str} {pos' : Pos} (hN : X.N.Nodup) (he : PEd Z X e te we) (hi : X.N[i]? = some x := by rfl) (hx : Loc X.env.scope x := by first | exact Or.inl rfl | exact Or.inr rfl) (hs : swapsWith e (some (.Name x pos')) pos.line X.env = pure false := by rfl) (hf : X.fn x = true ∨ X.env.scope.names.lookup x = some .local := by first | exact .inl rfl | exact .inr rfl | assumption) :
    PSd Z X (.Assign [.Name x pos'] e pos) (tAsg te (gName i)) (wAsg we (wName i)) := ⟨ps_set hN hi hx he.p hs hf, imp_asg he.i (imp_name i)⟩
def wPar (i j : Nat) (wr : WA) : WS := fun E ρ => wr ρ fun xs ρ1 => ∃ x y, xs = [x, y] ∧ E.nx ((ρ1.set i (some (.d x))).set j (some (.d y)))
theorem s_par {i j : Nat} {x y : Str} {px py pt : Pos} {kt k2 pt2} (hN : X.N.Nodup) (ha : PAd Z X [a, b] tr wr) (hij : i ≠ j := by decide) (hc : X.calm = true := by rfl) (hi : X.N[i]? = some x := by rfl) (hj : X.N[j]? = some y := by rfl)
    (hx : X.env.scope.names.lookup x = some .local := by rfl) (hy : X.env.scope.names.lookup y = some .local := by rfl)
    (hw : swappedStores [.Tuple [.Name x px, .Name y py] kt pt] (.Tuple [a, b] k2 pt2) X.env = pure (some [x, y]) := by rfl)
    (hs : swapsWithSole [.Tuple [.Name x px, .Name y py] kt pt] (.Tuple [a, b] k2 pt2) pos.line X.env = pure false := by rfl) :
    PSd Z X (.Assign [.Tuple [.Name x px, .Name y py] kt pt] (.Tuple [a, b] k2 pt2) pos) (tPar i j tr) (wPar i j wr) := by
  refine ⟨ps_par hc hN hi hj hij hx hy ha.p hw hs, fun F G M σ H ρ R E hq D cn => ?_⟩
  refine ha.i F G M σ H ρ R _ hq _ fun xs ρ1 vs M1 H1 R1 r1 ⟨x, y, e, q⟩ => ?_
  subst e
  cases r1 with
  | cons r1 r2 =>
    cases r2 with
    | cons r2 r3 =>
      cases r3
      exact ⟨_, _, rfl, cn.nx _ M1 _ H1 ((R1.r.put i r1).put j r2) q⟩

/-! ### own lists -/
def Md.may : Md → Bool
  | .ro => false
  | _ => true
theorem Md.may_ne {m : Md} (h : m.may = true) : m ≠ .ro := fun e => by subst e; cases h
theorem set_key {ρ : DE} {k i : Nat} {y z : Option Sl} (e : (ρ.set k z)[i]? = some y) : (i = k ∧ y = z ∧ k < ρ.length) ∨ (i ≠ k ∧ ρ[i]? = some y) := by
  by_cases hk : i = k
  · subst hk
    have hl : i < ρ.length := by
      have := (List.getElem?_eq_some_iff.mp e).1
      rwa [List.length_set] at this
    rw [List.getElem?_set_self hl] at e
    exact .inl ⟨rfl, (Option.some.inj e).symm, hl⟩
  · rw [List.getElem?_set_ne (Ne.symm hk)] at e
    exact .inr ⟨hk, e⟩
theorem RepS.lst {F : Frm} {G : List (V × T)} {M : MS} {H : Hp} {σ : L2.St} {ρ : DE} (R : RepS K F G M H σ ρ) {k : Nat} {m : Md} {xs : List PyData} (e : ρ[k]? = some (some (.o m (.l xs)))) : ∃ p vs, σ[k]? = some (some (.ref p)) ∧ H p = some (.lst vs) ∧ RpAll K M H vs xs := by
  obtain ⟨v, fp, h1, h2, h3⟩ := R.own e
  cases h2 with
  | l hm q r => exact ⟨_, _, h1, q, r⟩
/-- the one object of a slot's tree is written -/
theorem RepS.wr1 {F : Frm} {G : List (V × T)} {M : MS} {H : Hp} {σ : L2.St} {ρ : DE} (R : RepS K F G M H σ ρ) {k : Nat} {m : Md} {t0 : T} (e : ρ[k]? = some (some (.o m t0))) (hm : m.may = true) (hf : ∀ v fp, RT K M H v t0 fp → ∃ p, v = .ref p ∧ fp = [p]) :
    ∃ p, σ[k]? = some (some (.ref p)) ∧ M p ∧ RT K M H (.ref p) t0 [p] ∧ ∀ (o : HO) (t' : T), Mut (some o) → (Stp M H M (upd H p o) → RT K M (upd H p o) (.ref p) t' [p]) → RepS K F G M (upd H p o) σ (ρ.set k (some (.o m t'))) := by
  have R0 : RepS K F ((.non, .d .none) :: G) M H σ ρ := R.push .non
  obtain ⟨v, fp, fq, h1, h2, h3, h4, h5⟩ := R0.chg e (Md.may_ne hm)
  obtain ⟨p, rfl, rfl⟩ := hf v fp h2
  have hM := h2.mem p List.mem_cons_self
  refine ⟨p, h1, hM, h2, fun o t' ho ht => ?_⟩
  have kk : ∀ a x, a ∉ [p] → H a = some x → upd H p o a = some x := fun a x n z => by
    rw [List.mem_singleton] at n
    rw [upd_ne n]
    exact z
  have g : Stp M H M (upd H p o) := ⟨fun a z => .inl z, fun a o n z => kk a o (fun w => n (by rw [List.mem_singleton] at w; subst w; exact hM)) z⟩
  have eM : (fun a => M a ∨ a ∈ ([] : List Addr)) = M := by funext a; simp
  have q := h5 [] (upd H p o) t' [p] (fun a z => (by cases z)) kk (fun a z => by
    rcases z with z | z
    · rw [List.mem_singleton] at z
      subst z
      rw [upd_same]
      exact ho
    · cases z)
  rw [eM] at q
  exact q (ht g) (by simp) fun a z => .inl z
/-- one's own list has new items -/
theorem RepS.wrL {F : Frm} {G : List (V × T)} {M : MS} {H : Hp} {σ : L2.St} {ρ : DE} (R : RepS K F G M H σ ρ) {k : Nat} {m : Md} {xs : List PyData} (e : ρ[k]? = some (some (.o m (.l xs)))) (hm : m.may = true) {us : List V} {ys : List PyData} (ha : RpAll K M H us ys) :
    ∃ p vs, σ[k]? = some (some (.ref p)) ∧ H p = some (.lst vs) ∧ RpAll K M H vs xs ∧ ∃ M', RepS K F G M' (upd H p (.lst us)) σ (ρ.set k (some (.o m (.l ys)))) := by
  obtain ⟨p, h1, hM, h2, h3⟩ := R.wr1 e hm fun v fp r => by cases r with | l _ _ _ => exact ⟨_, rfl, rfl⟩
  cases h2 with
  | l _ q r => exact ⟨p, _, h1, q, r, M, h3 _ _ trivial fun g => .l hM upd_same (RpAll.stp R.ml g _ _ ha)⟩
def wFreeze (k : Nat) (w : WS) : WS := fun E ρ => ∃ t x, ρ[k]? = some (some (.o .loc t)) ∧ t.data = some x ∧ w E (ρ.set k (some (.d x)))
theorem imp_freeze (k : Nat) (h : ImpS Z K t w) : ImpS Z K t (wFreeze k w) := by
  intro F G M σ H ρ R E ⟨tr, x, e, hx, hw⟩ D cn
  obtain ⟨M', R'⟩ := R.r.freeze e hx
  exact h F G M' σ H _ (R.to R') E hw D cn
theorem b_freeze {sts : List Stmt} (k : Nat) (h : PBd Z X sts t w) : PBd Z X sts t (wFreeze k w) := ⟨h.p, imp_freeze k h.i⟩
theorem s_freeze (k : Nat) (h : PSd Z X st t w) : PSd Z X st t (wFreeze k w) := ⟨h.p, imp_freeze k h.i⟩
/-- slots are forgotten -/
def forgetD (ρ : DE) : List Nat → DE
  | [] => ρ
  | i :: is => forgetD (ρ.set i none) is
theorem RepS.forgets {F : Frm} {G : List (V × T)} {M : MS} {H : Hp} {σ : L2.St} {ρ : DE} (R : RepS K F G M H σ ρ) : ∀ is : List Nat, RepS K F G M H σ (forgetD ρ is)
  | [] => R
  | i :: is => (R.forget i).forgets is
/-- .. behind a statement -/
def wWipe (is : List Nat) (w : WS) : WS := fun E ρ => w { E with nx := fun ρ1 => E.nx (forgetD ρ1 is), ct := fun ρ1 => E.ct (forgetD ρ1 is), bk := fun ρ1 => E.bk (forgetD ρ1 is) } ρ
theorem imp_wipe (is : List Nat) (h : ImpS Z K t w) : ImpS Z K t (wWipe is w) := by
  intro F G M σ H ρ R E hw D cn
  exact h F G M σ H ρ R _ hw D ⟨fun ρ' M' σ' H' R' q => cn.nx _ M' σ' H' (R'.forgets is) q, cn.rt, fun ρ' M' σ' H' R' q => cn.bk _ M' σ' H' (R'.forgets is) q, fun ρ' M' σ' H' R' q => cn.ct _ M' σ' H' (R'.forgets is) q, cn.rl⟩
theorem s_wipe (is : List Nat) (h : PSd Z X st t w) : PSd Z X st t (wWipe is w) := ⟨h.p, imp_wipe is h.i⟩
theorem b_wipe {sts : List Stmt} (is : List Nat) (h : PBd Z X sts t w) : PBd Z X sts t (wWipe is w) := ⟨h.p, imp_wipe is h.i⟩
/-- a new tree becomes a slot's -/
def slotOf : T → Sl
  | .d x => .d x
  | t => .o .loc t
theorem RepS.takeS {F : Frm} {G : List (V × T)} {M : MS} {H : Hp} {σ : L2.St} {ρ : DE} {v : V} {t : T} (R : RepS K F ((v, t) :: G) M H σ ρ) (k : Nat) : RepS K F G M H (σ.set k (some v)) (ρ.set k (some (slotOf t))) := by
  cases t with
  | d x => exact R.pop.put k R.topD
  | _ => exact R.take k
def wTake (w : WN) (k : Nat) : WS := fun E ρ => w ρ fun t ρ1 => E.nx (ρ1.set k (some (slotOf t)))
theorem imp_take {w : WN} (h : ImpN Z K te w) (k : Nat) : ImpS Z K (tAsg te (gName k)) (wTake w k) := by
  intro F G M σ H ρ R E hw D cn
  exact h F G M σ H ρ R _ hw _ fun tr ρ1 v M1 H1 R1 q => cn.nx _ M1 _ H1 (R1.r.takeS k) q
theorem s_take {k : Nat} {x : Str} {pos' : Pos} {w : WN} (hN : X.N.Nodup) (he : PNd Z X e te w) (hi : X.N[k]? = some x := by rfl) (hx : Loc X.env.scope x := by first | exact Or.inl rfl | exact Or.inr rfl) (hs : swapsWith e (some (.Name x pos')) pos.line X.env = pure false := by rfl) (hf : X.fn x = true ∨ X.env.scope.names.lookup x = some .local := by first | exact .inl rfl | exact .inr rfl | assumption) :
    PSd Z X (.Assign [.Name x pos'] e pos) (tAsg te (gName k)) (wTake w k) := ⟨ps_set hN hi hx he.p hs hf, imp_take he.i k⟩
def wRetL (w : WN) : WS := fun E ρ => w ρ fun t ρ1 => E.rl t ρ1
theorem s_retL {w : WN} (he : PNd Z X e te w) : PSd Z X (.Return (some e) pos) (tRet te) (wRetL w) :=
  ⟨ps_ret he.p, fun F G M σ H ρ R E hw D cn => he.i F G M σ H ρ R _ hw _ fun tr ρ1 v M1 H1 R1 q => cn.rl tr ρ1 v M1 σ H1 R1.r q⟩
/-- one's own tree as a new one: it is given away -/
def wGive (k : Nat) : WN := fun ρ P => ∃ t, ρ[k]? = some (some (.o .loc t)) ∧ P t (ρ.set k none)
theorem n_give (k : Nat) {x : Str} {p : Pos} (hN : X.N[k]? = some x := by rfl) (hv : Vis X.env.scope x := by first | exact Or.inl rfl | exact Or.inr (Or.inl rfl) | exact Or.inr (Or.inr rfl)) (hd : (x == ("__debug__" : Str)) = false := by decide) (hcd : (x == ("__classdict__" : Str)) = false := by decide) :
    PNd Z X (.Name x p) (tVar k) (wGive k) := by
  refine ⟨pe_var hN hv hd hcd, fun F G M σ H ρ R P hw Q kk => ?_⟩
  obtain ⟨tr, e, hw⟩ := hw
  obtain ⟨v, h1, R1⟩ := R.r.give e
  exact ⟨v, h1, kk tr _ v M H (R.up R1) hw⟩
/-- a datum as a new tree; a new tree as a datum -/
def wND (we : WE) : WN := fun ρ P => we ρ fun x ρ1 => P (.d x) ρ1
theorem PEd.nn (h : PEd Z X e te we) : PNd Z X e te (wND we) := ⟨h.p, fun F G M σ H ρ R P hw Q k => h.i F G M σ H ρ R _ hw _ fun x ρ1 v M1 H1 R1 r1 q => k _ ρ1 v M1 H1 (R1.push r1) q⟩
def wL (w : WN) : WE := fun ρ P => w ρ fun t ρ' => ∃ x, t.data = some x ∧ P x ρ'
theorem ImpN.ee {t : TE} {w : WN} (h : ImpN Z K t w) : ImpE Z K t (wL w) := by
  intro F G M σ H ρ R P hw Q k
  refine h F G M σ H ρ R _ hw Q fun tr ρ' v M' H' R' ⟨x, hx, q⟩ => ?_
  obtain ⟨M2, R2⟩ := R'.r.freezeT hx
  exact k x ρ' v M2 H' (R.to R2.pop) R2.topD q
theorem PNd.ee {t : TE} {w : WN} (h : PNd Z X a t w) : PEd Z X a t (wL w) := ⟨h.p, h.i.ee⟩
/-- a new list of data -/
def wLstL (wr : WA) : WN := fun ρ P => wr ρ fun xs ρ1 => xs.length ≤ sizeLine ∧ P (.l xs) ρ1
theorem l_lst (h : PAd Z X es tr wr) : PNd Z X (.List es pos) (tLst tr) (wLstL wr) := by
  refine ⟨pe_lst h.p, fun F G M σ H ρ R P hw Q k => ?_⟩
  refine h.i F G M σ H ρ R _ hw _ fun xs ρ1 vs M1 H1 R1 r1 ⟨hl, q⟩ => ⟨by rw [r1.length]; exact hl, fun p hp => ?_⟩
  exact k _ ρ1 _ _ _ (R1.up (R1.r.new hp trivial (.l (.inr rfl) upd_same (RpAll.stp R1.ml (stp_new R1.r hp) _ _ r1)))) q
/-- x = [..], one's own from here on -/
def wOwn (wr : WA) (k : Nat) : WS := wTake (wLstL wr) k
theorem s_own {k : Nat} {x : Str} {pos' lp : Pos} (hN : X.N.Nodup) (h : PAd Z X es tr wr) (hi : X.N[k]? = some x := by rfl) (hx : Loc X.env.scope x := by first | exact Or.inl rfl | exact Or.inr rfl) (hs : swapsWith (.List es lp) (some (.Name x pos')) pos.line X.env = pure false := by rfl) (hf : X.fn x = true ∨ X.env.scope.names.lookup x = some .local := by first | exact .inl rfl | exact .inr rfl | assumption) :
    PSd Z X (.Assign [.Name x pos'] (.List es lp) pos) (tAsg (tLst tr) (gName k)) (wOwn wr k) := s_take hN (l_lst h) hi hx hs hf
/-- xs.append(e) -/
def wApp (k : Nat) (we : WE) : WS := fun E ρ => (∃ b xs, ρ[k]? = some (some (.o b (.l xs)))) ∧ we ρ fun x ρ1 => ∃ b xs, ρ1[k]? = some (some (.o b (.l xs))) ∧ b.may = true ∧ xs.length < sizeLine ∧ E.nx (ρ1.set k (some (.o b (.l (xs ++ [x])))))
theorem s_app (k : Nat) {x : Str} {p ap cp : Pos} (he : PEd Z X e te we) (hN : X.N[k]? = some x := by rfl) (hv : Vis X.env.scope x := by first | exact Or.inl rfl | exact Or.inr (Or.inl rfl) | exact Or.inr (Or.inr rfl)) (hd : (x == ("__debug__" : Str)) = false := by decide) (hcd : (x == ("__classdict__" : Str)) = false := by decide)
    (hbase : attributeBase (.Name x p) "append" X.env (eval (.Name x p) X.env) = eval (.Name x p) X.env := by rfl)
    (hfew : ((backTo cp (starEach [e] X.env)).all (fun x => !x.1) && (backToKw cp (keywordEach [] X.env)).all (fun x => x.1.isSome)
      && decide ([e].length + ([] : List Keyword).length + (if ([] : List Keyword).isEmpty then 0 else 1) < 30)) = true := by rfl)
    (hline : (ap.endLine == cp.line) = true := by rfl) (hs : starEach [e] X.env = (false, eval e X.env) :: starEach [] X.env := by rfl) (hsw : swapsWith (.Call (.Attribute (.Name x p) "append" ap) [e] [] cp) none pos.line X.env = pure false := by rfl) :
    PSd Z X (.Expr (.Call (.Attribute (.Name x p) "append" ap) [e] [] cp) pos) (tDrop (tBM X.K "list" rAppend (tVar k) (tCons te tNil))) (wApp k we) := by
  refine ⟨ps_expr (pe_bm PySem.F.plainAttrs_list PySem.F.slot_list_append PySem.F.type_list_append mt_append (pe_var hN hv hd hcd) (pa_cons he.p pa_nil hs) hbase hfew hline hs) hsw, fun F G M σ H ρ R E hw D cn => ?_⟩
  obtain ⟨⟨b0, xs0, e0⟩, hw⟩ := hw
  obtain ⟨p0, vs0, h1, h3, h4⟩ := R.r.lst e0
  refine ⟨.ref p0, h1, .inl ⟨rfl, vs0, SqL.of h3⟩, ?_⟩
  refine he.i F G M σ H ρ R _ hw _ fun y ρ1 v M1 H1 R1 r1 ⟨b1, xs1, e1, hb, hl, q⟩ => ?_
  obtain ⟨p1, vs1, z1, z3, z4⟩ := R1.r.lst e1
  rw [h1] at z1
  cases z1
  refine ⟨p0, vs1, v, rfl, rfl, z3, by rw [z4.length]; exact hl, ?_⟩
  obtain ⟨p2, vs2, y1, y2, y3, M2, R2⟩ := R1.r.wrL e1 hb (z4.append (.cons r1 .nil))
  rw [h1] at y1
  cases y1
  exact cn.nx _ M2 σ _ R2 q
/-- xs.extend(a list) -/
def wExt (k : Nat) (we : WE) : WS := fun E ρ => (∃ b xs, ρ[k]? = some (some (.o b (.l xs)))) ∧ we ρ fun x ρ1 => ∃ b xs ys, x = .list ys ∧ ρ1[k]? = some (some (.o b (.l xs))) ∧ b.may = true ∧ xs.length + ys.length ≤ sizeLine ∧ E.nx (ρ1.set k (some (.o b (.l (xs ++ ys)))))
theorem s_ext (k : Nat) {x : Str} {p ap cp : Pos} (he : PEd Z X e te we) (hN : X.N[k]? = some x := by rfl) (hv : Vis X.env.scope x := by first | exact Or.inl rfl | exact Or.inr (Or.inl rfl) | exact Or.inr (Or.inr rfl)) (hd : (x == ("__debug__" : Str)) = false := by decide) (hcd : (x == ("__classdict__" : Str)) = false := by decide)
    (hbase : attributeBase (.Name x p) "extend" X.env (eval (.Name x p) X.env) = eval (.Name x p) X.env := by rfl)
    (hfew : ((backTo cp (starEach [e] X.env)).all (fun x => !x.1) && (backToKw cp (keywordEach [] X.env)).all (fun x => x.1.isSome)
      && decide ([e].length + ([] : List Keyword).length + (if ([] : List Keyword).isEmpty then 0 else 1) < 30)) = true := by rfl)
    (hline : (ap.endLine == cp.line) = true := by rfl) (hs : starEach [e] X.env = (false, eval e X.env) :: starEach [] X.env := by rfl) (hsw : swapsWith (.Call (.Attribute (.Name x p) "extend" ap) [e] [] cp) none pos.line X.env = pure false := by rfl) :
    PSd Z X (.Expr (.Call (.Attribute (.Name x p) "extend" ap) [e] [] cp) pos) (tDrop (tBM X.K "list" rExtend (tVar k) (tCons te tNil))) (wExt k we) := by
  refine ⟨ps_expr (pe_bm PySem.F.plainAttrs_list PySem.F.slot_list_extend PySem.F.type_list_extend mt_extend (pe_var hN hv hd hcd) (pa_cons he.p pa_nil hs) hbase hfew hline hs) hsw, fun F G M σ H ρ R E hw D cn => ?_⟩
  obtain ⟨⟨b0, xs0, e0⟩, hw⟩ := hw
  obtain ⟨p0, vs0, h1, h3, h4⟩ := R.r.lst e0
  refine ⟨.ref p0, h1, .inl ⟨rfl, vs0, SqL.of h3⟩, ?_⟩
  refine he.i F G M σ H ρ R _ hw _ fun y ρ1 v M1 H1 R1 r1 ⟨b1, xs1, ys, ey, e1, hb, hl, q⟩ => ?_
  subst ey
  obtain ⟨p1, vs1, z1, z3, z4⟩ := R1.r.lst e1
  rw [h1] at z1
  cases z1
  cases r1 with
  | lst n1 l1 a1 =>
    refine ⟨p0, _, vs1, _, rfl, rfl, z3, l1, by rw [z4.length, a1.length]; exact hl, ?_⟩
    obtain ⟨p2, vs2, y1, y2, y3, M2, R2⟩ := R1.r.wrL e1 hb (z4.append a1)
    rw [h1] at y1
    cases y1
    exact cn.nx _ M2 σ _ R2 q
/-- xs.reverse() -/
def wRev (k : Nat) : WS := fun E ρ => ∃ b xs, ρ[k]? = some (some (.o b (.l xs))) ∧ b.may = true ∧ E.nx (ρ.set k (some (.o b (.l xs.reverse))))
theorem s_rev (k : Nat) {x : Str} {p ap cp : Pos} (hN : X.N[k]? = some x := by rfl) (hv : Vis X.env.scope x := by first | exact Or.inl rfl | exact Or.inr (Or.inl rfl) | exact Or.inr (Or.inr rfl)) (hd : (x == ("__debug__" : Str)) = false := by decide) (hcd : (x == ("__classdict__" : Str)) = false := by decide)
    (hbase : attributeBase (.Name x p) "reverse" X.env (eval (.Name x p) X.env) = eval (.Name x p) X.env := by rfl) (hline : (ap.endLine == cp.line) = true := by rfl) (hsw : swapsWith (.Call (.Attribute (.Name x p) "reverse" ap) [] [] cp) none pos.line X.env = pure false := by rfl) :
    PSd Z X (.Expr (.Call (.Attribute (.Name x p) "reverse" ap) [] [] cp) pos) (tDrop (tBM0 X.K "list" rReverse (tVar k))) (wRev k) := by
  refine ⟨ps_expr (pe_bm0 PySem.F.plainAttrs_list PySem.F.slot_list_reverse PySem.F.type_list_reverse mt_reverse (pe_var hN hv hd hcd) hbase hline) hsw, fun F G M σ H ρ R E hw D cn => ?_⟩
  obtain ⟨b0, xs0, e0, hb, q⟩ := hw
  obtain ⟨p0, vs0, h1, h3, h4⟩ := R.r.lst e0
  refine ⟨.ref p0, h1, .inl ⟨rfl, vs0, SqL.of h3⟩, p0, vs0, rfl, rfl, h3, ?_⟩
  obtain ⟨p2, vs2, y1, y2, y3, M2, R2⟩ := R.r.wrL e0 hb h4.reverse
  rw [h1] at y1
  cases y1
  exact cn.nx _ M2 σ _ R2 q
/-- xs[i] = e -/
def wPutI (k : Nat) (i : Int) (we : WE) : WS := fun E ρ => we ρ fun x ρ1 => ∃ b xs j, ρ1[k]? = some (some (.o b (.l xs))) ∧ b.may = true ∧ ixN xs.length i = some j ∧ E.nx (ρ1.set k (some (.o b (.l (xs.set j x)))))
theorem s_putI (k : Nat) {i : Int} {x : Str} {p sp ip : Pos} {ij : Nat} (he : PEd Z X e te we) (hN : X.N[k]? = some x := by rfl) (hv : Vis X.env.scope x := by first | exact Or.inl rfl | exact Or.inr (Or.inl rfl) | exact Or.inr (Or.inr rfl)) (hd : (x == ("__debug__" : Str)) = false := by decide) (hcd : (x == ("__classdict__" : Str)) = false := by decide)
    (hs : swapsWithSole [.Subscript (.Name x p) (.Constant (.int i) ij ip) sp] e pos.line X.env = pure false := by rfl) (hw : swappedStores [.Subscript (.Name x p) (.Constant (.int i) ij ip) sp] e X.env = pure none := by rfl) :
    PSd Z X (.Assign [.Subscript (.Name x p) (.Constant (.int i) ij ip) sp] e pos) (tAsg te (gSub (tVar k) (tC (.int i)) rSetL)) (wPutI k i we) := by
  refine ⟨ps_asg he.p (pg_sub (pe_var hN hv hd hcd) pe_int set_list) hs hw, fun F G M σ H ρ R E hq D cn => ?_⟩
  refine he.i F G M σ H ρ R _ hq _ fun y ρ1 v M1 H1 R1 r1 ⟨b1, xs1, j, e1, hb, hj, q⟩ => ?_
  obtain ⟨p1, vs1, z1, z3, z4⟩ := R1.r.lst e1
  refine ⟨.ref p1, z1, p1, vs1, i, j, rfl, rfl, z3, by rw [z4.length]; exact hj, ?_⟩
  obtain ⟨p2, vs2, y1, y2, y3, M2, R2⟩ := R1.r.wrL e1 hb (RpAll.set r1 j z4)
  rw [z1] at y1
  cases y1
  exact cn.nx _ M2 σ _ R2 q
/-- xs[i] of one's own list -/
def wIxO (k : Nat) (wb : WE) : WE := fun ρ P => wb ρ fun y ρ1 => ∃ b xs i x, ρ1[k]? = some (some (.o b (.l xs))) ∧ y = .int i ∧ atI xs i = some x ∧ P x ρ1
def wIxK (k : Nat) (wb : WE) : WE := fun ρ P => (∃ bb xs, ρ[k]? = some (some (.o bb (.l xs)))) ∧ wIxO k wb ρ P
theorem d_ixO (k : Nat) {x : Str} {p : Pos} (hb : PEd Z X b tb wb) (hN : X.N[k]? = some x := by rfl) (hv : Vis X.env.scope x := by first | exact Or.inl rfl | exact Or.inr (Or.inl rfl) | exact Or.inr (Or.inr rfl)) (hd : (x == ("__debug__" : Str)) = false := by decide) (hcd : (x == ("__classdict__" : Str)) = false := by decide) (hs : PlainIx b := by exact fun _ _ => rfl) :
    PEd Z X (.Subscript (.Name x p) b pos) (tOp (rIxL X.K) (tVar k) tb) (wIxK k wb) := by
  refine ⟨pe_ix ix_list (pe_var hN hv hd hcd) hb.p hs, fun F G M σ H ρ R P hw Q kk => ?_⟩
  obtain ⟨⟨b0, xs0, e0⟩, hw⟩ := hw
  obtain ⟨p0, vs0, h1, h3, h4⟩ := R.r.lst e0
  refine ⟨.ref p0, h1, ?_⟩
  refine hb.i F G M σ H ρ R _ hw _ fun y ρ1 v M1 H1 R1 r1 ⟨b1, xs1, i, z, e1, ey, ea, q⟩ => ?_
  subst ey
  cases r1
  obtain ⟨p1, vs1, z1, z3, z4⟩ := R1.r.lst e1
  rw [h1] at z1
  cases z1
  obtain ⟨v', q1, q2⟩ := atI_rp z4 ea
  exact ⟨p0, vs1, i, v', rfl, rfl, SqL.of z3, q1, kk z ρ1 v' M1 H1 R1 q2 q⟩
end
end Dat
set_option Elab.async false
set_option linter.all false
set_option maxRecDepth 100000
set_option maxHeartbeats 4000000
namespace Dat
open PySem PySem.Spec PyProof.Rows L2

/-! ### what is walked: it is held as a temporary -/
structure ItOk (K : KW) (J : It) (g : V × T) (xs : List PyData) : Prop where
  go : ∀ (M' : MS) (H' : Hp) (fp : List Addr), (∀ a, M' a → Mut (H' a)) → RT K M' H' g.1 g.2 fp → ∀ (i : Nat) x, xs[i]? = some x → J.go i H' ∧ ∀ v H'', J.yld i H' v H'' → Same H' H'' ∧ Rp K M' H'' v x
  stop : ∀ (M' : MS) (H' : Hp) (fp : List Addr), (∀ a, M' a → Mut (H' a)) → RT K M' H' g.1 g.2 fp → J.stop xs.length H'
abbrev WI := DE → (List PyData → DE → Prop) → Prop
def ImpI (Z : XC) (K : KW) (wi : TI) (w : WI) : Prop := ∀ (F : Frm) (G : List (V × T)) (M : MS) (σ : L2.St) (H : Hp) (ρ : DE), RepX Z K F G M H σ ρ → ∀ P, w ρ P → ∀ R : It → Hp → Prop,
  (∀ xs ρ' J g M' H', RepX Z K F (g :: G) M' H' σ ρ' → ItOk K J g xs → P xs ρ' → R J H') → wi σ H R
structure PId (Z : XC) (X : Cx) (tg iter : Expr) (wi : TI) (w : WI) : Prop where
  p : PI X tg iter wi
  i : ImpI Z X.kw wi w
section
variable {Z : XC} {K : KW} {X : Cx} {tg a b c e : Expr} {es : List Expr} {ta tb tc te : TE} {wa wb wc we : WE} {pos : Pos} {tt : TT} {wt : WT} {tr : TA} {wr : WA}
variable {st : Stmt} {rest : List Stmt} {t u : TS} {w w2 : WS}
def wiList (we : WE) : WI := fun ρ P => we ρ fun x ρ1 => ∃ xs, x = .list xs ∧ P xs ρ1
def wiTup (we : WE) : WI := fun ρ P => we ρ fun x ρ1 => ∃ xs, x = .tuple xs ∧ P xs ρ1
theorem i_list (h : PEd Z X e te we) : PId Z X tg e (iList X.K te) (wiList we) := by
  refine ⟨pi_list h.p, fun F G M σ H ρ R P hw Rr k => ?_⟩
  refine h.i F G M σ H ρ R _ hw _ fun x ρ1 v M1 H1 R1 r1 ⟨xs, e, q⟩ => ?_
  subst e
  have r1' := r1
  cases r1 with
  | @lst p vs _ n1 l1 a1 =>
    refine ⟨p, rfl, ⟨_, SqL.of l1⟩, k xs ρ1 _ _ M1 H1 (R1.push r1') ⟨fun M' H' fp ml' r i x ex => ?_, fun M' H' fp ml' r => ?_⟩ q⟩
    · cases r with
      | d r =>
        cases r with
        | @lst _ vs2 _ n2 l2 a2 =>
          obtain ⟨v, q1, q2⟩ := a2.get ex
          refine ⟨⟨vs2, v, SqL.of l2, q1⟩, fun v' H'' y => ?_⟩
          obtain ⟨y1, y2⟩ := y
          subst y1
          have y3 := y2 vs2 (SqL.of l2)
          rw [q1] at y3
          cases y3
          exact ⟨Same.refl _, q2⟩
    · cases r with
      | d r =>
        cases r with
        | @lst _ vs2 _ n2 l2 a2 => exact ⟨vs2, SqL.of l2, by rw [a2.length]; exact Nat.le_refl _⟩
theorem i_tup (h : PEd Z X e te we) : PId Z X tg e (iTup X.K te) (wiTup we) := by
  refine ⟨pi_tup h.p, fun F G M σ H ρ R P hw Rr k => ?_⟩
  refine h.i F G M σ H ρ R _ hw _ fun x ρ1 v M1 H1 R1 r1 ⟨xs, e, q⟩ => ?_
  subst e
  have r1' := r1
  cases r1 with
  | @tup p vs _ l1 a1 =>
    refine ⟨p, rfl, ⟨_, l1⟩, k xs ρ1 _ _ M1 H1 (R1.push r1') ⟨fun M' H' fp ml' r i x ex => ?_, fun M' H' fp ml' r => ?_⟩ q⟩
    · cases r with
      | d r =>
        cases r with
        | @tup _ vs2 _ l2 a2 =>
          obtain ⟨v, q1, q2⟩ := a2.get ex
          refine ⟨⟨vs2, v, l2, q1⟩, fun v' H'' y => ?_⟩
          obtain ⟨y1, y2⟩ := y
          subst y1
          have y3 := y2 vs2 l2
          rw [q1] at y3
          cases y3
          exact ⟨Same.refl _, q2⟩
    · cases r with
      | d r =>
        cases r with
        | @tup _ vs2 _ l2 a2 => exact ⟨vs2, l2, by rw [a2.length]; exact Nat.le_refl _⟩
def rangeD (lo : Int) (n : Nat) : List PyData := (List.range n).map fun i => .int (lo + (i : Nat))
theorem rangeD_len (lo : Int) (n : Nat) : (rangeD lo n).length = n := by unfold rangeD; rw [List.length_map, List.length_range]
theorem rangeD_get {lo : Int} {n i : Nat} {x : PyData} (h : (rangeD lo n)[i]? = some x) : i < n ∧ x = .int (lo + (i : Nat)) := by
  unfold rangeD at h
  rw [List.getElem?_map] at h
  obtain ⟨j, e1, e2⟩ := Option.map_eq_some_iff.mp h
  obtain ⟨h1, h2⟩ := List.getElem?_eq_some_iff.mp e1
  rw [List.getElem_range] at h2
  rw [List.length_range] at h1
  subst h2
  exact ⟨h1, e2.symm⟩
theorem itok_range {g : V × T} (lo : Int) (n : Nat) : ItOk K (Itr lo n) g (rangeD lo n) := by
  refine ⟨fun M' H' fp ml' r i x ex => ?_, fun M' H' fp ml' r => by rw [rangeD_len]; exact Nat.le_refl n⟩
  obtain ⟨h1, h2⟩ := rangeD_get ex
  refine ⟨h1, fun v H'' y => ?_⟩
  obtain ⟨y1, y2⟩ := y
  subst y1
  subst y2
  subst h2
  exact ⟨Same.refl _, .int _⟩
def wiRng1 (wr : WA) : WI := fun ρ P => wr ρ fun xs ρ1 => ∃ j : Int, xs = [.int j] ∧ j < 2 ^ 62 ∧ -(2 ^ 62) ≤ j ∧ P (rangeD 0 j.toNat) ρ1
def wiRng2 (wr : WA) : WI := fun ρ P => wr ρ fun xs ρ1 => ∃ i j : Int, xs = [.int i, .int j] ∧ (-(2 ^ 62) ≤ i ∧ i < 2 ^ 62 ∧ -(2 ^ 62) ≤ j ∧ j < 2 ^ 62) ∧ P (rangeD i (j - i).toNat) ρ1
theorem i_rng1 {p : Pos} (hm : X.mg "range" = none) (ha : PAd Z X [a] tr wr) (hg : Gl X "range" := by rfl) (hs : starEach [a] X.env = [(false, eval a X.env)] := by rfl) : PId Z X tg (.Call (.Name "range" p) [a] [] pos) (iRng1 tr) (wiRng1 wr) := by
  refine ⟨pi_range1 hg hm ha.p hs, fun F G M σ H ρ R P hw Rr k => ?_⟩
  refine ha.i F G M σ H ρ R _ hw _ fun xs ρ1 vs M1 H1 R1 r1 ⟨j, e, h1, h2, q⟩ => ?_
  subst e
  cases r1 with
  | cons r1 r2 =>
    cases r2
    cases r1
    exact ⟨j, rfl, h2, h1, k _ ρ1 _ _ M1 H1 (R1.push .non) (itok_range 0 j.toNat) q⟩
theorem i_rng2 {p : Pos} (hm : X.mg "range" = none) (ha : PAd Z X [a, b] tr wr) (hg : Gl X "range" := by rfl) (hs : starEach [a, b] X.env = [(false, eval a X.env), (false, eval b X.env)] := by rfl) (hs2 : starEach [b] X.env = [(false, eval b X.env)] := by rfl) :
    PId Z X tg (.Call (.Name "range" p) [a, b] [] pos) (iRng2 tr) (wiRng2 wr) := by
  refine ⟨pi_range2 hg hm ha.p hs hs2, fun F G M σ H ρ R P hw Rr k => ?_⟩
  refine ha.i F G M σ H ρ R _ hw _ fun xs ρ1 vs M1 H1 R1 r1 ⟨i, j, e, h1, q⟩ => ?_
  subst e
  cases r1 with
  | cons r1 r2 =>
    cases r2 with
    | cons r2 r3 =>
      cases r3
      cases r1
      cases r2
      exact ⟨i, j, rfl, h1, k _ ρ1 _ _ M1 H1 (R1.push .non) (itok_range i (j - i).toNat) q⟩

/-! ### for -/
def forRec (wg : WG) (wb : WS) (E : DEnds) : List PyData → DE → Prop
  | [], ρ => E.nx ρ
  | x :: xs, ρ => wg x ρ fun ρ1 => wb { E with nx := forRec wg wb E xs, ct := forRec wg wb E xs, bk := E.nx } ρ1
def wFor (wi : WI) (wg : WG) (wb : WS) : WS := fun E ρ => wi ρ fun xs ρ1 => forRec wg wb E xs ρ1
theorem imp_for {wi : TI} {wj : WI} {g : TG} {wg : WG} {tb : TS} {wb : WS} (hi : ImpI Z K wi wj) (hg : ImpG K g wg) (hb : ImpS Z K tb wb) : ImpS Z K (tFor wi g tb) (wFor wj wg wb) := by
  intro F G M σ H ρ R E hw D cn
  refine hi F G M σ H ρ R _ hw _ fun xs ρ1 J gi M1 H1 R1 ok q => ?_
  refine ⟨fun i m σ' H' => i ≤ xs.length ∧ m = xs.length - i ∧ ∃ M' ρ', RepS K F (gi :: G) M' H' σ' ρ' ∧ forRec wg wb E (xs.drop i) ρ', ⟨xs.length, Nat.zero_le _, rfl, M1, ρ1, R1.r, q⟩, ?_⟩
  rintro i m σ' H' ⟨hi1, rfl, M', ρ', R', q'⟩
  obtain ⟨fp, rt, _⟩ := R'.top
  by_cases hlt : i < xs.length
  · right
    have hx : xs[i]? = some xs[i] := List.getElem?_eq_getElem hlt
    obtain ⟨go, yl⟩ := ok.go M' H' fp R'.ml rt i _ hx
    rw [List.drop_eq_getElem_cons hlt] at q'
    refine ⟨go, fun σ2 H2 => ∃ M2 ρ2, RepS K F (gi :: G) M2 H2 σ2 ρ2 ∧ forRec wg wb E (xs.drop (i + 1)) ρ2, fun σ2 H2 ⟨M2, ρ2, z1, z3⟩ => ⟨xs.length - (i + 1), by omega, hlt, rfl, M2, ρ2, z1, z3⟩, fun v H'' y => ?_⟩
    obtain ⟨s2, r2⟩ := yl v H'' y
    refine hg F _ M' σ' H'' ρ' (R'.same s2) _ v r2 _ q' _ fun ρ3 σ3 H3 R3 s3 q3 => ?_
    exact hb F _ M' σ3 H3 ρ3 (R1.to R3) _ q3 _ ⟨fun ρ4 M4 σ4 H4 R4 q4 => ⟨M4, ρ4, R4, q4⟩, fun x ρ4 v4 M4 σ4 H4 R4 => cn.rt x ρ4 v4 M4 σ4 H4 R4.pop, fun ρ4 M4 σ4 H4 R4 => cn.nx ρ4 M4 σ4 H4 R4.pop, fun ρ4 M4 σ4 H4 R4 q4 => ⟨M4, ρ4, R4, q4⟩, (cn.up gi).rl⟩
  · left
    have e : i = xs.length := by omega
    subst e
    rw [List.drop_length] at q'
    exact ⟨ok.stop M' H' fp R'.ml rt, cn.nx ρ' M' σ' H' R'.pop q'⟩
theorem s_for {iter : Expr} {body : List Stmt} {wi : TI} {wj : WI} {g : TG} {wg : WG} {tb : TS} {wb : WS} (hp : PassesOwn (model X.prog X.w) X.A X.env X.xe) (hi : PId Z X tg iter wi wj) (hg : PGd X tg g wg) (hb : PBd Z X body tb wb) (hc : X.calm = true := by rfl)
    (hs : ∀ x, foldedSetIterable iter X.env x = pure x := by intro _; rfl) : PSd Z X (.For tg iter body [] pos) (tFor wi g tb) (wFor wj wg wb) := ⟨ps_for hp hc hi.p hg.p hb.p hs, imp_for hi.i hg.i hb.i⟩

/-! ### while -/
def wWhile (wt : WT) (wb : WS) : WS := fun E ρ => ∃ I : Nat → DE → Prop, (∃ m, I m ρ) ∧ ∀ m ρ, I m ρ → wt ρ fun b ρ1 =>
  if b = true then wb { E with nx := fun ρ' => ∃ m', m' < m ∧ I m' ρ', ct := fun ρ' => ∃ m', m' < m ∧ I m' ρ', bk := E.nx } ρ1 else E.nx ρ1
theorem imp_while {tb : TS} {wb : WS} (hc : ImpT Z K tt wt) (hb : ImpS Z K tb wb) : ImpS Z K (tWhile tt tb) (wWhile wt wb) := by
  intro F G M σ H ρ R E hw D cn
  obtain ⟨I, ⟨m0, i0⟩, hI⟩ := hw
  refine ⟨fun m σ' H' => ∃ M' ρ', RepS K F G M' H' σ' ρ' ∧ I m ρ', ⟨m0, M, ρ, R.r, i0⟩, ?_⟩
  rintro m σ' H' ⟨M', ρ', R', i'⟩
  refine hc F G M' σ' H' ρ' (R.to R') _ (hI m ρ' i') _ fun b ρ1 M1 H1 R1 q => ?_
  cases b with
  | true =>
    rw [if_pos rfl] at q ⊢
    refine ⟨fun σ2 H2 => ∃ m', m' < m ∧ ∃ M2 ρ2, RepS K F G M2 H2 σ2 ρ2 ∧ I m' ρ2, fun σ2 H2 z => z, ?_⟩
    exact hb F G M1 σ' H1 ρ1 R1 _ q _ ⟨fun ρ4 M4 σ4 H4 R4 ⟨m', h1, h2⟩ => ⟨m', h1, M4, ρ4, R4, h2⟩, cn.rt, cn.nx, fun ρ4 M4 σ4 H4 R4 ⟨m', h1, h2⟩ => ⟨m', h1, M4, ρ4, R4, h2⟩, cn.rl⟩
  | false =>
    rw [if_neg Bool.false_ne_true] at q ⊢
    exact cn.nx ρ1 M1 σ' H1 R1.r q
theorem s_while {c : Expr} {body : List Stmt} {tb : TS} {wb : WS} (hp : PassesOwn (model X.prog X.w) X.A X.env X.xe) (hc : PTd Z X c tt wt) (hb : PBd Z X body tb wb) : PSd Z X (.While c body [] pos) (tWhile tt tb) (wWhile wt wb) := ⟨ps_while hp hc.p hb.p, imp_while hc.i hb.i⟩

/-! ### list comprehensions -/
def wipeD (ρ : DE) : List Nat → DE
  | [] => ρ
  | v :: vs => (wipeD ρ vs).set v none
theorem wipeD_some {ρ : DE} {i : Nat} {x : Sl} : ∀ {vs : List Nat}, (wipeD ρ vs)[i]? = some (some x) → ρ[i]? = some (some x) ∧ i ∉ vs
  | [], h => ⟨h, by simp⟩
  | v :: vs, h => by
    rcases set_key (show ((wipeD ρ vs).set v none)[i]? = some (some x) from h) with ⟨_, z, _⟩ | ⟨hi, h'⟩
    · cases z
    · obtain ⟨h1, h2⟩ := wipeD_some h'
      exact ⟨h1, by simp only [List.mem_cons, not_or]; exact ⟨hi, h2⟩⟩
theorem wipeD_len (ρ : DE) : ∀ vs : List Nat, (wipeD ρ vs).length = ρ.length
  | [] => rfl
  | v :: vs => by unfold wipeD; rw [List.length_set, wipeD_len ρ vs]
theorem RepS.wipe {F : Frm} {G : List (V × T)} {M : MS} {H : Hp} {σ : L2.St} {ρ : DE} (r : RepS K F G M H σ ρ) (vs : List Nat) : RepS K F G M H σ (wipeD ρ vs) := by
  induction vs with
  | nil => exact r
  | cons v vs ih => exact ih.forget v
/-- targets of a comprehension: only its own slots change -/
def ImpGv (K : KW) (vs : List Nat) (g : TG) (wg : WG) : Prop := ∀ (F : Frm) (G : List (V × T)) (M : MS) (σ : L2.St) (H : Hp) (ρ : DE), RepS K F G M H σ ρ → ∀ x v, Rp K M H v x → ∀ P, wg x ρ P → ∀ Q : L2.St → Hp → Prop,
  (∀ ρ' σ' H', RepS K F G M H' σ' ρ' → Same H H' → L2.wipe σ' vs = L2.wipe σ vs → P ρ' → Q σ' H') → g v σ H Q
theorem wipe_set {σ : L2.St} {i : Nat} {o : Option V} : ∀ {vs : List Nat}, i ∈ vs → L2.wipe (σ.set i o) vs = L2.wipe σ vs
  | [], h => by cases h
  | v :: vs, h => by
    unfold L2.wipe
    by_cases hv : i = v
    · subst hv
      by_cases hm : i ∈ vs
      · rw [wipe_set hm]
      · have key : ∀ ws : List Nat, i ∉ ws → L2.wipe (σ.set i o) ws = (L2.wipe σ ws).set i o := by
          intro ws
          induction ws with
          | nil => intro _; rfl
          | cons w ws ih =>
            intro hn
            have h1 : i ≠ w := fun z => hn (by rw [z]; exact List.mem_cons_self)
            have h2 : i ∉ ws := fun z => hn (List.mem_cons_of_mem _ z)
            unfold L2.wipe
            rw [ih h2, List.set_comm _ _ h1]
        rw [key vs hm, List.set_set]
    · rcases List.mem_cons.mp h with h | h
      · exact absurd h hv
      · rw [wipe_set h]
theorem wipe_wipe (σ : L2.St) (vs : List Nat) : L2.wipe (L2.wipe σ vs) vs = L2.wipe σ vs := by
  have key : ∀ ws : List Nat, (∀ i ∈ ws, i ∈ vs) → L2.wipe (L2.wipe σ ws) vs = L2.wipe σ vs := by
    intro ws
    induction ws with
    | nil => intro _; rfl
    | cons w ws ih =>
      intro h
      show L2.wipe ((L2.wipe σ ws).set w none) vs = _
      rw [wipe_set (h w (List.mem_cons_self)), ih fun i hi => h i (List.mem_cons_of_mem _ hi)]
  exact key vs fun _ h => h
theorem wipe_sub {σ : L2.St} {vs : List Nat} : ∀ {ws : List Nat}, (∀ i ∈ ws, i ∈ vs) → L2.wipe (L2.wipe σ ws) vs = L2.wipe σ vs
  | [], _ => rfl
  | w :: ws, h => by
    show L2.wipe ((L2.wipe σ ws).set w none) vs = _
    rw [wipe_set (h w (List.mem_cons_self)), wipe_sub fun i hi => h i (List.mem_cons_of_mem _ hi)]
theorem v_name {i : Nat} {vs : List Nat} (h : i ∈ vs) : ImpGv K vs (gName i) (wName i) := fun F G M σ H ρ R x v r P hp Q k => k _ _ H (R.put i r) (Same.refl H) (wipe_set h) hp
def ImpGsv (K : KW) (vs : List Nat) (g : TGs) (wg : WGs) : Prop := ∀ (F : Frm) (G : List (V × T)) (M : MS) (σ : L2.St) (H : Hp) (ρ : DE), RepS K F G M H σ ρ → ∀ xs us, RpAll K M H us xs → ∀ P, wg xs ρ P → ∀ Q : L2.St → Hp → Prop,
  (∀ ρ' σ' H', RepS K F G M H' σ' ρ' → Same H H' → L2.wipe σ' vs = L2.wipe σ vs → P ρ' → Q σ' H') → g us σ H Q
theorem vs_nil {vs : List Nat} : ImpGsv K vs gNil wgNil := by
  intro F G M σ H ρ R xs us r P hp Q k
  obtain ⟨e, hp⟩ := hp
  subst e
  cases r
  exact ⟨rfl, k ρ σ H R (Same.refl H) rfl hp⟩
theorem vs_cons {vs : List Nat} {g : TG} {gr : TGs} {wg : WG} {wgr : WGs} (h1 : ImpGv K vs g wg) (h2 : ImpGsv K vs gr wgr) : ImpGsv K vs (gCons g gr) (wgCons wg wgr) := by
  intro F G M σ H ρ R xs us r P hp Q k
  obtain ⟨x, xr, e, hp⟩ := hp
  subst e
  cases r with
  | cons r1 r2 =>
    refine ⟨_, _, rfl, h1 F G M σ H ρ R _ _ r1 _ hp _ fun ρ1 σ1 H1 R1 s1 w1 q1 => ?_⟩
    exact h2 F G M σ1 H1 ρ1 R1 _ _ (r2.same R.ml s1) _ q1 _ fun ρ2 σ2 H2 R2 s2 w2 q2 => k ρ2 σ2 H2 R2 (s1.trans s2) (w2.trans w1) q2
theorem v_tup {vs : List Nat} {n : Nat} {g : TGs} {wg : WGs} (h : ImpGsv K vs g wg) : ImpGv K vs (gTup K n g) (wgTup n wg) := by
  intro F G M σ H ρ R x v r P hp Q kk
  obtain ⟨xs, e, hl, hp⟩ := hp
  subst e
  cases r with
  | tup e1 h1 => exact ⟨_, _, rfl, e1, by rw [h1.length]; exact hl, h F G M σ H ρ R xs _ h1 P hp Q kk⟩
def wYes : WT := fun ρ P => P true ρ
theorem imp_yes : ImpT Z K tYes wYes := fun F G M σ H ρ R P hp Q k => k true ρ M H R hp
/-- the one object of a temporary is written -/
theorem RepS.wrT1 {F : Frm} {G : List (V × T)} {M : MS} {H : Hp} {σ : L2.St} {ρ : DE} {D : Addr} {t0 t' : T} {o : HO} (R : RepS K F ((.ref D, t0) :: G) M H σ ρ) (hf : ∀ v fp, RT K M H v t0 fp → ∃ p, v = .ref p ∧ fp = [p]) (ho : Mut (some o)) (ht : Stp M H M (upd H D o) → RT K M (upd H D o) (.ref D) t' [D]) : RepS K F ((.ref D, t') :: G) M (upd H D o) σ ρ := by
  obtain ⟨b, A, B, h1, h2, h3, h4⟩ := R
  cases h2 with
  | @cons _ _ _ _ fp fq r rs =>
    obtain ⟨p, e1, rfl⟩ := hf _ _ r
    have e1 : V.ref D = V.ref p := e1
    cases e1
    have hm := r.mem D List.mem_cons_self
    have kk : ∀ a x, a ∉ [D] → H a = some x → upd H D o a = some x := fun a x n z => by
      rw [List.mem_singleton] at n
      rw [upd_ne n]
      exact z
    have g : Stp M H M (upd H D o) := ⟨fun a z => .inl z, fun a o n z => kk a o (fun w => n (by rw [List.mem_singleton] at w; subst w; exact hm)) z⟩
    have nd := List.nodup_append.mp h4
    have nd2 := List.nodup_append.mp nd.2.1
    have keep : ∀ a, M a → a ∉ [D] → M a ∧ upd H D o a = H a := fun a ha hn => ⟨ha, keepM b.ml kk ha hn⟩
    refine ⟨⟨b.sub, b.m0, b.b0, fun a h => ?_, b.mn, fun a x e n => ?_⟩, A, [D] ++ fq, h1.stp b.ml g fun a z => keep a (h1.mem a z) fun y => nd.2.2 a z a (List.mem_append_left _ y) rfl, .cons (ht g) (rs.stp b.ml g fun a z => keep a (rs.mem a z) fun y => nd2.2.2 a y a z rfl), h3, h4⟩
    · by_cases z : a = D
      · subst z
        rw [upd_same]
        exact ho
      · rw [upd_ne z]
        exact b.ml a h
    · refine kk a x (fun z => ?_) (b.fr a x e n)
      rw [List.mem_singleton] at z
      subst z
      rw [h3 a List.mem_cons_self] at e
      cases e
/-- the list that is being made has new items -/
theorem RepS.wrT {F : Frm} {G : List (V × T)} {M : MS} {H : Hp} {σ : L2.St} {ρ : DE} {D : Addr} {xs ys : List PyData} {us : List V} (R : RepS K F ((.ref D, .l xs) :: G) M H σ ρ) (ha : RpAll K M H us ys) : RepS K F ((.ref D, .l ys) :: G) M (upd H D (.lst us)) σ ρ := by
  obtain ⟨fp, r, _⟩ := R.top
  have ml := R.ml
  cases r with
  | l hm _ _ => exact R.wrT1 (fun v fp r => by cases r with | l _ _ _ => exact ⟨_, rfl, rfl⟩) trivial fun g => .l hm upd_same (RpAll.stp ml g _ _ ha)
end
end Dat
set_option Elab.async false
set_option linter.all false
set_option maxRecDepth 100000
set_option maxHeartbeats 4000000
namespace Dat
open PySem PySem.Spec PyProof.Rows L2

/-! ### comprehensions of several clauses: what a turn does is told by the clauses behind it -/
abbrev TK := Addr → L2.St → Hp → (Hp → Prop) → Prop
/-- the last: an item more -/
def kApp (te : TE) : TK := fun D σ H Nx => te σ H fun y H1 => ∃ acc, H1 D = some (.lst acc) ∧ acc.length < sizeLine ∧ Nx (upd H1 D (.lst (acc ++ [y])))
def turns (J : It) (g : TG) (tt : TT) (tk : TK) (vs : List Nat) (σ : L2.St) (D : Addr) (W : Nat → Nat → Hp → Prop) (Nx : Hp → Prop) : Prop := ∀ i m H, W i m H →
  (J.stop i H ∧ Nx H) ∨ (J.go i H ∧ ∃ Ny : Hp → Prop, (∀ H', Ny H' → ∃ m', m' < m ∧ W (i + 1) m' H') ∧ ∀ x H', J.yld i H x H' → g x (wipe σ vs) H' fun σ2 H2 => wipe σ2 vs = wipe σ vs ∧ tt σ2 H2 fun b H3 => if b = true then tk D σ2 H3 Ny else Ny H3)
/-- a clause -/
def kCl (wi : TI) (g : TG) (tt : TT) (tk : TK) (vs : List Nat) : TK := fun D σ H Nx => wi σ H fun J H1 => ∃ W : Nat → Nat → Hp → Prop, (∃ m, W 0 m H1) ∧ turns J g tt tk vs σ D W Nx
/-- what may hang on where the block stands -/
abbrev BF (α : Type) := Shared → Hp → Addr → List (Str × Addr) → List Addr → α
def tLcN (wi : TI) (g : BF TG) (tt : BF TT) (tk : BF TK) (vs : List Nat) : TE := fun σ H Q => wi σ H fun J H1 => ∀ D, H1 D = none → ∀ (s : Shared) (H' : Hp) (C : Addr) (cl : List (Str × Addr)) (fp : List Addr), ∃ W : Nat → Nat → Hp → Prop, (∃ m, W 0 m (upd H1 D (.lst []))) ∧ turns J (g s H' C cl fp) (tt s H' C cl fp) (tk s H' C cl fp) vs σ D W fun H2 => Q (.ref D) H2

def turnG (t i : Expr) (ifs : List Expr) (it : Value) (env : Env) (yes no : Sem Fin) : Sem Fin := do
  standAt i.pos
  match ← pyNext it with
  | none => pure (.done .next)
  | some v =>
    letOwnedTupleGo t it v
    assign t env v
    let mut ok := true
    for c in ifs do
      if ok then ok ← isTrue c env (eval c env)
    if ok then yes else no
def midG (C : Expr) (k : Nat) (i : Expr) (env : Env) (acc : Value) (rest : Sem Fin) : Sem Fin := do
  let x ← eval i env
  standAt i.pos
  let x ← foldedSetIterable i env x
  let _ ← runOwn (.compStart C k (← holding [x] (pyIter x)) acc env) env
  rest
def lastG (elt : Expr) (env : Env) (acc : Value) (rest : Sem Fin) : Sem Fin := do
  (do let _ ← call (.builtin "list.append") [acc, ← eval elt env])
  rest
abbrev TurnsAs (C : Expr) (k : Nat) (t i : Expr) (ifs : List Expr) (yes : Env → Value → Sem Fin → Sem Fin) : Prop := ∀ (it acc : Value) (env : Env), compTurn C k it acc env = turnG t i ifs it env (yes env acc (again (.compLoop C k it acc env))) (again (.compLoop C k it acc env))
theorem turns1 {elt t0 i0 : Expr} {ifs0 : List Expr} {scope : Scope} {pos : Pos} : TurnsAs (.ListComp elt [⟨t0, i0, ifs0, 0⟩] scope pos) 0 t0 i0 ifs0 (lastG elt) := fun _ _ _ => rfl
theorem turns2 {elt t0 i0 t1 i1 : Expr} {ifs0 ifs1 : List Expr} {scope : Scope} {pos : Pos} : TurnsAs (.ListComp elt [⟨t0, i0, ifs0, 0⟩, ⟨t1, i1, ifs1, 0⟩] scope pos) 0 t0 i0 ifs0 (midG (.ListComp elt [⟨t0, i0, ifs0, 0⟩, ⟨t1, i1, ifs1, 0⟩] scope pos) 1 i1) := fun _ _ _ => rfl
theorem turns21 {elt t0 i0 t1 i1 : Expr} {ifs0 ifs1 : List Expr} {scope : Scope} {pos : Pos} : TurnsAs (.ListComp elt [⟨t0, i0, ifs0, 0⟩, ⟨t1, i1, ifs1, 0⟩] scope pos) 1 t1 i1 ifs1 (lastG elt) := fun _ _ _ => rfl
theorem turns3 {elt t0 i0 t1 i1 t2 i2 : Expr} {ifs0 ifs1 ifs2 : List Expr} {scope : Scope} {pos : Pos} : TurnsAs (.ListComp elt [⟨t0, i0, ifs0, 0⟩, ⟨t1, i1, ifs1, 0⟩, ⟨t2, i2, ifs2, 0⟩] scope pos) 0 t0 i0 ifs0 (midG (.ListComp elt [⟨t0, i0, ifs0, 0⟩, ⟨t1, i1, ifs1, 0⟩, ⟨t2, i2, ifs2, 0⟩] scope pos) 1 i1) := fun _ _ _ => rfl
theorem turns31 {elt t0 i0 t1 i1 t2 i2 : Expr} {ifs0 ifs1 ifs2 : List Expr} {scope : Scope} {pos : Pos} : TurnsAs (.ListComp elt [⟨t0, i0, ifs0, 0⟩, ⟨t1, i1, ifs1, 0⟩, ⟨t2, i2, ifs2, 0⟩] scope pos) 1 t1 i1 ifs1 (midG (.ListComp elt [⟨t0, i0, ifs0, 0⟩, ⟨t1, i1, ifs1, 0⟩, ⟨t2, i2, ifs2, 0⟩] scope pos) 2 i2) := fun _ _ _ => rfl
theorem turns32 {elt t0 i0 t1 i1 t2 i2 : Expr} {ifs0 ifs1 ifs2 : List Expr} {scope : Scope} {pos : Pos} : TurnsAs (.ListComp elt [⟨t0, i0, ifs0, 0⟩, ⟨t1, i1, ifs1, 0⟩, ⟨t2, i2, ifs2, 0⟩] scope pos) 2 t2 i2 ifs2 (lastG elt) := fun _ _ _ => rfl
/-- a clause's start goes to its loop -/
abbrev StartsAs (C : Expr) (k : Nat) : Prop := ∀ {prog : Program} {w : World} {A : Around} {R : Result → Shared → Prop} {s : Shared} {it acc : Value} {env : Env},
  codeAny (model prog w) A (.compLoop C k it acc env) R s → wpAny (model prog w) A (pyIter it) (fun it' s' => codeAny (model prog w) A (.compLoop C k it' acc env) R s') (notedBy (model prog w) A env fun x s' => R (.error x) s') s → codeAny (model prog w) A (.compStart C k it acc env) R s
theorem starts_of {elt : Expr} {gs : List Comprehension} {scope : Scope} {pos : Pos} {k : Nat} {c : Comprehension} (hk : (clausesOf (.ListComp elt gs scope pos))[k]? = some c) (ha : (c.is_async != 0) = false) : StartsAs (.ListComp elt gs scope pos) k := by
  intro prog w A R s it acc env h0 h
  refine codeAny_of_tree ?_
  show wpAny _ _ ((compStart (.ListComp elt gs scope pos) k it acc env).onRaise (fun x => do noteFrame x env; standAt theWindowsPlace)) _ _ s
  refine wpAny_notedAt ?_
  unfold compStart
  rw [hk]
  simp only [Option.elim, ha, Bool.false_eq_true, if_false]
  refine wpAny_bind (wpAny_askSetting (wpAny_ite ?_))
  split
  · first
      | exact wpAny_bind (wpAny_pure (wpAny_pure (And.intro rfl h0)))
      | exact wpAny_pure (And.intro rfl h0)
  · exact wpAny_bind (wpAny_rule (wpAny_bind (wpAny_standAt (wpAny_bind (wpAny_mono h (fun it' s' h' => wpAny_pure (And.intro rfl h')) fun _ _ x => x)))))

structure PAct (Y : Cx) (yes : Env → Value → Sem Fin → Sem Fin) (vs : List Nat) (t : TK) : Prop where
  run : ∀ (pins : List (Addr × Obj)) (s : Shared) (σ : L2.St) (H : Hp) (D : Addr) (Nx : Hp → Prop) (rest : Sem Fin) (Post : Fin → Shared → Prop) (E : Value → Shared → Prop), Inv Y pins σ H s → t D σ H Nx →
    (∀ s' H', Inv Y pins (wipe σ vs) H' s' → Nx H' → wpAny (model Y.prog Y.w) Y.A rest Post E s') → wpAny (model Y.prog Y.w) Y.A (yes Y.env (.ref D) rest) Post E s
theorem thnX {α : Type} {Y : Cx} {t : Sem α} {Q Q' : α → Shared → Prop} {M : Model} {A : Around} {E : Value → Shared → Prop} {s : Shared} (hx : Y.xe = fun _ _ => False) (h : wpAny M A t Q Y.xe s) (hQ : ∀ a s, Q a s → Q' a s) : wpAny M A t Q' E s := by
  rw [hx] at h
  exact thnF h hQ
theorem act_last {Y : Cx} {elt : Expr} {te : TE} (hx : Y.xe = fun _ _ => False) (pe : PE Y elt te) : PAct Y (lastG elt) [] (kApp te) := by
  refine ⟨fun pins s σ H D Nx rest Post E I h hr => ?_⟩
  unfold lastG
  refine wpAny_bind (wpAny_bind (thnX hx (pe.run pins s σ H _ I h) fun z s1 ⟨yv, H1, I1, r1, acc, hD, hz, nx⟩ => ?_))
  exact wpAny_bind (app_ok (X := Y) I1 hD hz r1 fun s2 I2 => wpAny_pure (hr s2 _ I2 nx))
/-- an iterator's turns, in contexts of a kind -/
structure TurnG (ok : Cx → Prop) (P : Program) (w : World) (K : PySem.W.Frag) (tg : Expr) (J : It) (fp : List Addr) (it : Addr) (tn : Nat → Heap → Prop) : Prop where
  obj : ∀ n hp, tn n hp → ∀ b ∈ fp, ∃ o, hp.get? b = some o ∧ ∀ v, o.data ≠ .cell v
  keep : ∀ n hp hq, tn n hp → (∀ b ∈ fp, ∀ o, hp.get? b = some o → hq.get? b = some o) → tn n hq
  item : ∀ (X : Cx), X.prog = P → X.w = w → X.K = K → ok X → ∀ (i : Nat) (pins : List (Addr × Obj)) (s : Shared) (σ : L2.St) (H : Hp) (E : Value → Shared → Prop), Inv X pins σ H s → (∀ b ∈ fp, FpOk X pins H b) → tn i s.heap → J.go i H →
    wpAny (model P w) X.A (pyNext (.ref it)) (fun r s1 => ∃ u, r = some u ∧ wpAny (model P w) X.A (letOwnedTupleGo tg (.ref it) u) (fun _ s2 => ∃ x H', Inv X pins σ H' s2 ∧ RelV x u ∧ J.yld i H x H' ∧ tn (i + 1) s2.heap ∧ ∀ b ∈ fp, H' b = none) E s1) E s
  done : ∀ (X : Cx), X.prog = P → X.w = w → X.K = K → ok X → ∀ (i : Nat) (pins : List (Addr × Obj)) (s : Shared) (σ : L2.St) (H : Hp) (E : Value → Shared → Prop), Inv X pins σ H s → (∀ b ∈ fp, FpOk X pins H b) → tn i s.heap → J.stop i H →
    wpAny (model P w) X.A (pyNext (.ref it)) (fun r s1 => r = none ∧ Inv X pins σ H s1) E s
  self : ∀ (A : Around) (n : Nat) (s : Shared) (Q : Value → Shared → Prop) (E : Value → Shared → Prop), tn n s.heap → Q (.ref it) s → wpAny (model P w) A (pyIter (.ref it)) Q E s
abbrev calmC (X : Cx) : Prop := X.calm = true
theorem turn_g {P : Program} {w : World} {K : PySem.W.Frag} {tg : Expr} {J : It} {fp : List Addr} {it : Addr} {tn : Nat → Heap → Prop} (T : Turn P w K tg J fp it tn) : TurnG calmC P w K tg J fp it tn := ⟨T.obj, T.keep, T.item, T.done, T.self⟩
def PIG (ok : Cx → Prop) (X : Cx) (tg iter : Expr) (wi : TI) : Prop := ∀ (pins : List (Addr × Obj)) (s : Shared) (σ : L2.St) (H : Hp) (R : It → Hp → Prop), Inv X pins σ H s → wi σ H R →
  wpAny (model X.prog X.w) X.A (eval iter X.env) (fun v s1 => wpAny (model X.prog X.w) X.A (pyIter v) (fun itv s2 => ∃ (it : Addr) (fp : List Addr) (tn : Nat → Heap → Prop) (J : It) (H' : Hp), itv = .ref it ∧ Inv X pins σ H' s2 ∧ TurnG ok X.prog X.w X.K tg J fp it tn ∧ tn 0 s2.heap ∧ (∀ b ∈ fp, FpOk X pins H' b) ∧ R J H') X.xe s1) X.xe s
theorem pi_g {X : Cx} {tg iter : Expr} {wi : TI} (h : PI X tg iter wi) : PIG calmC X tg iter wi := fun pins s σ H R I q =>
  thn (h.run pins s σ H R I q) fun v s1 h1 => thn h1 fun itv s2 ⟨it, fp, tn, J, H', e, I', T, r⟩ => ⟨it, fp, tn, J, H', e, I', turn_g T, r⟩
theorem cl_loop {ok : Cx → Prop} {Y : Cx} {el : Expr} {gl : List Comprehension} {sl : Scope} {pl : Pos} {k : Nat} {t i : Expr} {ifs : List Expr} {yes : Env → Value → Sem Fin → Sem Fin} {vs vs' : List Nat} {g : TG} {tt : TT} {tk : TK} (hc : ok Y) (hx : Y.xe = fun _ _ => False) (hT : TurnsAs (.ListComp el gl sl pl) k t i ifs yes)
    (pg : PG Y t g) (pt : PTs Y ifs tt) (pa : PAct Y yes vs' tk) (hv : ∀ j ∈ vs', j ∈ vs) {pins : List (Addr × Obj)} {s : Shared} {σ : L2.St} {H : Hp} {D it : Addr} {fp : List Addr} {tn : Nat → Heap → Prop} {J : It} {W : Nat → Nat → Hp → Prop} {Nx : Hp → Prop} {m0 : Nat} {R : Result → Shared → Prop}
    (I : Inv Y pins (wipe σ vs) H s) (T : TurnG ok Y.prog Y.w Y.K t J fp it tn) (st : tn 0 s.heap) (f : ∀ b ∈ fp, FpOk Y pins H b) (w0 : W 0 m0 H) (turn : turns J g tt tk vs σ D W Nx)
    (hR : ∀ s' H', Inv Y pins (wipe σ vs) H' s' → Nx H' → R (.ok .next) s') : codeAny (model Y.prog Y.w) Y.A (.compLoop (.ListComp el gl sl pl) k (.ref it) (.ref D) Y.env) R s := by
  have stat : ∀ {H' : Hp}, (∀ b ∈ fp, H' b = none) → ∀ b ∈ fp, FpOk Y pins H' b := fun hn b hb => ⟨hn b hb, (f b hb).2⟩
  refine codeAny_loop rfl (fun n s' => ∃ j H', Inv Y pins (wipe σ vs) H' s' ∧ tn j s'.heap ∧ (∀ b ∈ fp, H' b = none) ∧ W j n H') (fun n s1 ⟨j, H1, I1, st1, n1, w1⟩ => ?_) m0 ⟨0, H, I, st, fun b hb => (f b hb).1, w0⟩
  show wpAny _ Y.A ((compTurn (.ListComp el gl sl pl) k (.ref it) (.ref D) Y.env).onRaise (fun x => do noteFrame x Y.env; theTreesLotGoes x)) _ _ s1
  refine wpAny_noted ?_
  rw [hT]
  unfold turnG
  refine wpAny_bind (wpAny_standAt (wpAny_bind ?_))
  rcases turn j n H1 w1 with ⟨stop, nx⟩ | ⟨go, Ny, hNy, step⟩
  · refine thnF (T.done Y rfl rfl rfl hc j pins s1 _ H1 (fun _ _ => False) I1 (stat n1) st1 stop) fun r s2 ⟨hr, I2⟩ => ?_
    subst hr
    exact wpAny_pure (hR s2 H1 I2 nx)
  · refine thnF (T.item Y rfl rfl rfl hc j pins s1 _ H1 (fun _ _ => False) I1 (stat n1) st1 go) fun r s2 ⟨u, hr, h2⟩ => ?_
    subst hr
    refine wpAny_bind (thnF h2 fun _ s3 ⟨x, H3, I3, r3, y3, st3, n3⟩ => ?_)
    have I3' := I3.pinned (stat n3) (T.obj _ _ st3)
    refine wpAny_bind (thnX hx (pg.run _ s3 _ H3 x u _ I3' r3 (step x H3 y3)) fun _ s4 ⟨σ4, H4, I4, hw4, q4⟩ => ?_)
    refine wpAny_bind (thnX hx (pt.run _ s4 σ4 H4 _ I4 q4) fun b s5 ⟨H5, I5, q5⟩ => ?_)
    have fin : ∀ {σ5 : L2.St} {s' : Shared} {H' : Hp}, Inv Y (pins ++ pinsAt fp s3.heap) σ5 H' s' → (wipe σ vs).length = σ5.length → (∀ (l : Nat) v, (wipe σ vs)[l]? = some (some v) → σ5[l]? = some (some v)) → Ny H' → ∃ m, m < n ∧ ∃ j H', Inv Y pins (wipe σ vs) H' s' ∧ tn j s'.heap ∧ (∀ b ∈ fp, H' b = none) ∧ W j m H' := fun {σ5 s' H'} I' hl hk nx => by
      obtain ⟨m', hm, w'⟩ := hNy H' nx
      have pin' : ∀ b ∈ fp, ∀ o, s3.heap.get? b = some o → s'.heap.get? b = some o ∧ H' b = none := fun b hb o e =>
        let z := I'.pin (b, o) (List.mem_append_right _ (List.mem_append_right _ (mem_pinsAt hb e)))
        ⟨z.1, z.2.1⟩
      refine ⟨m', hm, j + 1, H', I'.unpinned.weak hl hk, T.keep _ _ _ st3 fun b hb o e => (pin' b hb o e).1, fun b hb => ?_, w'⟩
      obtain ⟨o, e, _⟩ := T.obj _ _ st3 b hb
      exact (pin' b hb o e).2
    have hl4 : (wipe σ vs).length = σ4.length := by rw [← hw4, wipe_length]
    cases b with
    | false =>
      simp only [Bool.false_eq_true, if_false] at q5 ⊢
      exact wpAny_pure ⟨rfl, fin I5 hl4 (fun l v e => by rw [← hw4] at e; exact (wipe_some e).1) q5⟩
    | true =>
      simp only [if_true] at q5 ⊢
      refine pa.run _ s5 σ4 H5 D Ny _ _ _ I5 q5 fun s6 H6 I6 nx => wpAny_pure ⟨rfl, fin I6 (hl4.trans (wipe_length σ4 vs').symm) (fun l v e => ?_) nx⟩
      rw [← hw4] at e
      obtain ⟨e1, e2⟩ := wipe_some e
      rw [wipe_out fun z => e2 (hv l z)]
      exact e1
theorem act_cl {Y : Cx} {el : Expr} {gl : List Comprehension} {sl : Scope} {pl : Pos} {k : Nat} {t i : Expr} {ifs : List Expr} {yes : Env → Value → Sem Fin → Sem Fin} {vs vs' : List Nat} {wi : TI} {g : TG} {tt : TT} {tk : TK} (hc : Y.calm = true) (hx : Y.xe = fun _ _ => False) (hT : TurnsAs (.ListComp el gl sl pl) k t i ifs yes) (hS : StartsAs (.ListComp el gl sl pl) k)
    (pi : PI Y t i wi) (pg : PG Y t g) (pt : PTs Y ifs tt) (pa : PAct Y yes vs' tk) (hv : ∀ j ∈ vs', j ∈ vs) (hs : ∀ x, foldedSetIterable i Y.env x = pure x) : PAct Y (midG (.ListComp el gl sl pl) k i) vs (kCl wi g tt tk vs) := by
  refine ⟨fun pins s σ H D Nx rest Post E I h hr => ?_⟩
  unfold midG
  refine wpAny_bind (thnX hx (pi.run pins s σ H _ I h) fun xv s1 h1 => ?_)
  refine wpAny_bind (wpAny_standAt (wpAny_bind (wpAny_of_eq (hs xv) (wpAny_bind (wpAny_holding (thnX hx h1 fun itv s2 h2 => ?_))))))
  obtain ⟨it, fp, tn, J, H2, e, I2, T, st2, f2, W, ⟨m0, w0⟩, turn⟩ := h2
  subst e
  refine wpAny_bind (wpAny_runOwn ?_)
  rw [Around.mark_none]
  have loop := cl_loop (R := fun r s' => match r with
    | .ok _ => wpAny (model Y.prog Y.w) Y.A rest Post E s'
    | .error _ => False) (ok := calmC) hc hx hT pg pt pa hv (I2.weak (wipe_length _ _) (fun j v e => (wipe_some e).1)) (turn_g T) st2 f2 w0 turn fun s' H' I' nx => hr s' H' I' nx
  refine codeAny_mono (hS loop (T.self Y.A 0 _ _ _ st2 loop)) fun r s' hq => ?_
  cases r with
  | ok _ => exact hq
  | error _ => exact hq.elim
section
variable {X : Cx} {pins : List (Addr × Obj)} {s : Shared} {σ : L2.St} {H : Hp} {Q : VK} {elt tg iter : Expr} {ifs : List Expr} {gs : List Comprehension} {scope : Scope} {own : List (Str × Nat)} {pos pos' : Pos} {wi : TI} {g : BF TG} {tt : BF TT} {tk : BF TK} {use : Option (Value → Sem Unit)} {Qf : Value → Shared → Prop} {yes : Env → Value → Sem Fin → Sem Fin} {vs' : List Nat}
theorem lcN_core {okc : Cx → Prop} (hc : ∀ {pins : List (Addr × Obj)} {σ : L2.St} {H : Hp} {s : Shared}, Inv X pins σ H s → ∀ ce fp, okc (X.blk s H scope ce fp)) (hN : X.N.Nodup) (I : Inv X pins σ H s) (hi : PIG okc X tg iter wi) (ok : BlkOk X.N X.env.scope scope own) (hT : TurnsAs (.ListComp elt (⟨tg, iter, ifs, 0⟩ :: gs) scope pos) 0 tg iter ifs yes) (hv : ∀ j ∈ vs', j ∈ own.map (·.2))
    (hg : ∀ (s : Shared) (H : Hp) (C : Addr) (cl : List (Str × Addr)) (fp : List Addr), PG (X.blk s H scope (compEnvC scope cl C X.env) fp) tg (g s H C cl fp)) (ht : ∀ (s : Shared) (H : Hp) (C : Addr) (cl : List (Str × Addr)) (fp : List Addr), PTs (X.blk s H scope (compEnvC scope cl C X.env) fp) ifs (tt s H C cl fp))
    (ha : ∀ (s : Shared) (H : Hp) (C : Addr) (cl : List (Str × Addr)) (fp : List Addr), PAct (X.blk s H scope (compEnvC scope cl C X.env) fp) yes vs' (tk s H C cl fp)) (hs : ∀ x, foldedSetIterable iter X.env x = pure x)
    (h : tLcN wi g tt tk (own.map (·.2)) σ H Q)
    (hRR : ∀ D C s' m H', Inv X pins σ H' s' → Q (.ref D) H' → s'.heap.Ns C m → FpOk X pins H' C → compPost (model X.prog X.w) X.A X.xe use Qf (.ref D) C (.ok .next) s') :
    wpAny (model X.prog X.w) X.A (comprehension (.ListComp elt (⟨tg, iter, ifs, 0⟩ :: gs) scope pos) scope X.env pos' (newList []) false (eval iter X.env) use) Qf X.xe s := by
  have hfree : ∀ y ∈ scope.names, y.2 = .free → ∃ c, X.env.cells.lookup y.1 = some c := fun y hy e => (ok.free y hy e).elim (fun k => I.ok.has _ (.inl k)) fun k => I.ok.has _ (.inr k)
  refine wpAny_comprehension_free (use := use) rfl hs (closure_ok hfree) ok.kind (fun y hy e => by rw [ok.uniq y hy, e]) (thn (hi pins s σ H _ I h) fun xv s1 hx => thn hx fun itv s2 h2 => ?_)
  obtain ⟨it, fp, tn, J, H2, e, I2, T, st2, f2, q⟩ := h2
  subst e
  refine wpAny_newObj_type (newEnv_comp ?_) (by show 0 ≤ sizeLine; decide)
  generalize hD : s2.heap.objs.size = D
  have hDn := I2.hok.fresh (Nat.le_of_eq hD)
  generalize hs3 : ({ s2 with heap := s2.heap.push { cls := .type "list", data := .seq ([] : List Value).toArray } } : Shared) = s3
  have I3 : Inv X pins σ (upd H2 D (.lst [])) s3 := by
    rw [← hs3]
    refine I2.laid (t' := s2.toks) (fun b o e => Heap.get?_push_of_some _ e) (Nat.le_of_eq hD) ⟨Nat.zero_le _, [], 0, .nil, ?_⟩
    rw [← hD]
    exact Heap.get?_push_size _ rfl
  have h3 : s3.heap = s2.heap.push { cls := .type "list", data := .seq ([] : List Value).toArray } := by rw [← hs3]
  have f3 : ∀ b ∈ fp, FpOk X pins (upd H2 D (.lst [])) b ∧ b < s3.heap.objs.size := fun b hb => by
    obtain ⟨o, e, _⟩ := T.obj _ _ st2 b hb
    have hlt := Heap.lt_size e
    refine ⟨⟨?_, (f2 b hb).2⟩, by rw [h3, Heap.size_push]; exact Nat.lt_succ_of_lt hlt⟩
    rw [upd_ne (by rw [← hD]; exact Nat.ne_of_lt hlt)]
    exact (f2 b hb).1
  have st3 : tn 0 s3.heap := T.keep _ _ _ st2 fun b _ o e => by rw [h3]; exact Heap.get?_push_of_some _ e
  have I4 := block_start I3 ok hN f3
  obtain ⟨W, ⟨m0, w0⟩, turn⟩ := q D hDn s3 (upd H2 D (.lst [])) s3.heap.objs.size (cellsFrom (s3.heap.objs.size + 1) scope.names (cloFrom X.env.cells scope.names [])) fp
  have pg := hg s3 (upd H2 D (.lst [])) s3.heap.objs.size (cellsFrom (s3.heap.objs.size + 1) scope.names (cloFrom X.env.cells scope.names [])) fp
  have pt := ht s3 (upd H2 D (.lst [])) s3.heap.objs.size (cellsFrom (s3.heap.objs.size + 1) scope.names (cloFrom X.env.cells scope.names [])) fp
  have pa := ha s3 (upd H2 D (.lst [])) s3.heap.objs.size (cellsFrom (s3.heap.objs.size + 1) scope.names (cloFrom X.env.cells scope.names [])) fp
  generalize g s3 (upd H2 D (.lst [])) s3.heap.objs.size (cellsFrom (s3.heap.objs.size + 1) scope.names (cloFrom X.env.cells scope.names [])) fp = g0 at turn pg
  generalize tt s3 (upd H2 D (.lst [])) s3.heap.objs.size (cellsFrom (s3.heap.objs.size + 1) scope.names (cloFrom X.env.cells scope.names [])) fp = tt0 at turn pt
  generalize tk s3 (upd H2 D (.lst [])) s3.heap.objs.size (cellsFrom (s3.heap.objs.size + 1) scope.names (cloFrom X.env.cells scope.names [])) fp = tk0 at turn pa
  show codeAny _ _ (.compStart (.ListComp elt (⟨tg, iter, ifs, 0⟩ :: gs) scope pos) 0 (.ref it) (.ref D) (compEnvC scope (cellsFrom (s3.heap.objs.size + 1) scope.names (cloFrom X.env.cells scope.names [])) s3.heap.objs.size X.env)) (compPost (model X.prog X.w) X.A X.xe use Qf (.ref D) s3.heap.objs.size) { s3 with heap := pushCells (s3.heap.push { cls := .type "dict", data := .dict #[] }) scope.names }
  generalize hce : compEnvC scope (cellsFrom (s3.heap.objs.size + 1) scope.names (cloFrom X.env.cells scope.names [])) s3.heap.objs.size X.env = ce at I4 pg pt pa ⊢
  have cL : ce.locals = s3.heap.objs.size := by subst hce; rfl
  generalize hH3 : upd H2 D (.lst []) = H3 at I3 I4 pg pt pa w0 f3
  generalize hs4 : ({ s3 with heap := pushCells (s3.heap.push { cls := .type "dict", data := .dict #[] }) scope.names } : Shared) = s4 at I4 ⊢
  have st4 : tn 0 s4.heap := T.keep _ _ _ st3 fun b _ o e => by rw [← hs4]; exact pushCells_keeps _ _ _ _ (Heap.get?_push_of_some _ e)
  have f4 : ∀ b ∈ fp, FpOk (X.blk s3 H3 scope ce fp) [] H3 b := fun b hb => ⟨(f3 b hb).1.1, (I4.ok.exf b hb).1, I4.ok.exfs b hb, .inl hb, fun x c e => (I4.ok.exf b hb).2 x c e, fun p hp => absurd (show p ∈ ([] : List (Addr × Obj)) ++ [] from hp) (by simp)⟩
  have loop : codeAny (model X.prog X.w) X.A (.compLoop (.ListComp elt (⟨tg, iter, ifs, 0⟩ :: gs) scope pos) 0 (.ref it) (.ref D) ce) (compPost (model X.prog X.w) X.A X.xe use Qf (.ref D) s3.heap.objs.size) s4 := by
    refine cl_loop (ok := okc) (Y := X.blk s3 H3 scope ce fp) (hc I3 ce fp) rfl hT pg pt pa hv I4 T st4 f4 w0 turn fun s6 H5 I6 qq => ?_
    have I7 : Inv X pins σ H5 s6 := I3.call' (ch := fp) I6.os I6.base I6.hok I6.bare fun b hb => ⟨(f3 b hb).1.2.2.2.1, (f3 b hb).1.2.1, (f3 b hb).1.2.2.2.2.1, (f3 b hb).1.2.2.2.2.2⟩
    have nC : H5 s3.heap.objs.size = none := by
      have z : H5 ce.locals = none := I6.free
      rw [cL] at z
      exact z
    obtain ⟨m, hn, _⟩ := I6.loc
    have hn : s6.heap.Ns ce.locals m := hn
    rw [cL] at hn
    exact hRR D s3.heap.objs.size s6 m H5 I7 qq hn (I3.fpOk (Nat.le_refl _) nC)
  exact codeAny_compStart_list loop (T.self X.A 0 _ _ _ st4 loop)
theorem pe_lcN {okc : Cx → Prop} (hc : ∀ {pins : List (Addr × Obj)} {σ : L2.St} {H : Hp} {s : Shared}, Inv X pins σ H s → ∀ ce fp, okc (X.blk s H scope ce fp)) (hN : X.N.Nodup) (hi : PIG okc X tg iter wi) (ok : BlkOk X.N X.env.scope scope own) (hT : TurnsAs (.ListComp elt (⟨tg, iter, ifs, 0⟩ :: gs) scope pos) 0 tg iter ifs yes) (hv : ∀ j ∈ vs', j ∈ own.map (·.2))
    (hg : ∀ (s : Shared) (H : Hp) (C : Addr) (cl : List (Str × Addr)) (fp : List Addr), PG (X.blk s H scope (compEnvC scope cl C X.env) fp) tg (g s H C cl fp)) (ht : ∀ (s : Shared) (H : Hp) (C : Addr) (cl : List (Str × Addr)) (fp : List Addr), PTs (X.blk s H scope (compEnvC scope cl C X.env) fp) ifs (tt s H C cl fp))
    (ha : ∀ (s : Shared) (H : Hp) (C : Addr) (cl : List (Str × Addr)) (fp : List Addr), PAct (X.blk s H scope (compEnvC scope cl C X.env) fp) yes vs' (tk s H C cl fp)) (hs : ∀ x, foldedSetIterable iter X.env x = pure x) : PE X (.ListComp elt (⟨tg, iter, ifs, 0⟩ :: gs) scope pos) (tLcN wi g tt tk (own.map (·.2))) := by
  refine ⟨fun pins s σ H Q I h => ?_⟩
  rw [eval_ListComp]
  refine lcN_core hc hN I hi ok hT hv hg ht ha hs h fun D C s' m H' I' q hn f => ⟨m, hn, fun h'' sb => ?_⟩
  obtain ⟨f0, f1, f2, f3, f4, f5⟩ := f
  exact ⟨.ref D, H', I'.turned (t' := s'.toks) (fun b o hb e => (sb.2 b hb).trans e) f0 f1 f3 f4 f5, rfl, q⟩
/-- name = [..] on one line -/
theorem ps_setN {i : Nat} {y : Str} {py spos : Pos} (hc : X.calm = true) (hN : X.N.Nodup) (hy : X.N[i]? = some y) (hyl : X.env.scope.names.lookup y = some .local) (hsw : swapsWith (.ListComp elt (⟨tg, iter, ifs, 0⟩ :: gs) scope pos) (some (.Name y py)) spos.line X.env = pure true)
    (hi : PI X tg iter wi) (ok : BlkOk X.N X.env.scope scope own) (hT : TurnsAs (.ListComp elt (⟨tg, iter, ifs, 0⟩ :: gs) scope pos) 0 tg iter ifs yes) (hv : ∀ j ∈ vs', j ∈ own.map (·.2))
    (hg : ∀ (s : Shared) (H : Hp) (C : Addr) (cl : List (Str × Addr)) (fp : List Addr), PG (X.blk s H scope (compEnvC scope cl C X.env) fp) tg (g s H C cl fp)) (ht : ∀ (s : Shared) (H : Hp) (C : Addr) (cl : List (Str × Addr)) (fp : List Addr), PTs (X.blk s H scope (compEnvC scope cl C X.env) fp) ifs (tt s H C cl fp))
    (ha : ∀ (s : Shared) (H : Hp) (C : Addr) (cl : List (Str × Addr)) (fp : List Addr), PAct (X.blk s H scope (compEnvC scope cl C X.env) fp) yes vs' (tk s H C cl fp)) (hs : ∀ x, foldedSetIterable iter X.env x = pure x) :
    PS X (.Assign [.Name y py] (.ListComp elt (⟨tg, iter, ifs, 0⟩ :: gs) scope pos) spos) (tAsg (tLcN wi g tt tk (own.map (·.2))) (gName i)) := by
  refine ⟨fun pins s σ H D I h => ?_⟩
  rw [exec_Assign_Name_used _ _ _ _ hsw]
  refine wpAny_bind (wpAny_standAt (wpAny_bind ?_))
  show wpAny _ X.A (do let _ ← comprehension (.ListComp elt (⟨tg, iter, ifs, 0⟩ :: gs) scope pos) scope X.env (firstIterPos (⟨tg, iter, ifs, 0⟩ :: gs) pos) (newList []) false (eval iter X.env) (some (assign (.Name y py) X.env))) _ _ s
  have h : tLcN wi g tt tk (own.map (·.2)) σ H (fun x H1 => gName i x σ H1 D.nx) := h
  refine wpAny_bind (thn (lcN_core (Qf := fun _ s' => SP X pins D .next s') (okc := calmC) (fun _ _ _ => hc) hN I (pi_g hi) ok hT hv hg ht ha hs h fun L C s' m H' I' q hn f => ?_) fun _ s' hq => wpAny_pure (wpAny_pure hq))
  show wpAny _ _ (assign (.Name y py) X.env (.ref L)) _ _ _
  refine wpAny_assign_Name (store_ok2 (v := V.ref L) I' hN hy (.inl hyl) rfl (fun s2 I2 ⟨a, sb, ha⟩ => ?_) (.inr hyl))
  obtain ⟨f0, f1, f2, f3, f4, f5⟩ := f
  have haC : C ≠ a := by
    rcases ha with z | z
    · rw [z]; exact f1
    · exact fun e => f4 y a z e.symm
  refine ⟨m, hn.sameBut sb haC, fun h3 sb3 => ?_⟩
  exact ⟨_, H', I2.turned (t' := s2.toks) (fun b o hb e => (sb3.2 b hb).trans e) f0 f1 f3 f4 f5, q⟩
end
end Dat
set_option Elab.async false
set_option linter.all false
set_option maxRecDepth 100000
set_option maxHeartbeats 4000000
namespace Dat
open PySem PySem.Spec PyProof.Rows L2
/-! ### comprehensions of several clauses, over data -/
abbrev WK := DE → List PyData → (List PyData → DE → Prop) → Prop
def wkApp (we : WE) : WK := fun ρ acc P => we ρ fun y ρ1 => acc.length < sizeLine ∧ P (acc ++ [y]) ρ1
def clRec (wg : WG) (wt : WT) (wk : WK) (vs : List Nat) : List PyData → List PyData → DE → (List PyData → DE → Prop) → Prop
  | [], acc, ρ, P => P acc ρ
  | x :: xs, acc, ρ, P => wg x ρ fun ρ1 => wt ρ1 fun b ρ2 => if b = true then wk ρ2 acc fun acc' ρ3 => clRec wg wt wk vs xs acc' (wipeD ρ3 vs) P else clRec wg wt wk vs xs acc (wipeD ρ2 vs) P
def wkCl (wi : WI) (wg : WG) (wt : WT) (wk : WK) (vs : List Nat) : WK := fun ρ acc P => wi ρ fun xs ρ1 => clRec wg wt wk vs xs acc (wipeD ρ1 vs) P
def wLcN (wi : WI) (wg : WG) (wt : WT) (wk : WK) (vs : List Nat) : WN := fun ρ P => wi ρ fun xs ρ1 => clRec wg wt wk vs xs [] (wipeD ρ1 vs) fun acc ρ2 => P (.l acc) ρ2
def ImpK (Z : XC) (K : KW) (vs : List Nat) (t : TK) (wk : WK) : Prop := ∀ (F : Frm) (G : List (V × T)) (M : MS) (σ : L2.St) (H : Hp) (ρ : DE) (D : Addr) (acc : List PyData), RepX Z K F ((.ref D, .l acc) :: G) M H σ ρ → ∀ P, wk ρ acc P → ∀ Nx : Hp → Prop,
  (∀ acc' ρ' M' H', RepS K F ((.ref D, .l acc') :: G) M' H' (L2.wipe σ vs) ρ' → (∀ (j : Nat) (y : Sl), ρ'[j]? = some (some y) → j ∉ vs) → P acc' ρ' → Nx H') → t D σ H Nx
section
variable {Z : XC} {K : KW} {X : Cx} {tg elt iter : Expr} {ifs : List Expr} {te : TE} {we : WE} {pos : Pos} {tt : TT} {wt : WT} {wi : TI} {wj : WI} {g : TG} {wg : WG} {tk : TK} {wk : WK} {vs vs' : List Nat}
theorem RepX.cxAcc {F : Frm} {G : List (V × T)} {M M' : MS} {H H' : Hp} {σ σ' : L2.St} {ρ ρ' : DE} {D : Addr} {acc acc' : List PyData} (R : RepX Z K F ((.ref D, .l acc) :: G) M H σ ρ) (R' : RepS K F ((.ref D, .l acc') :: G) M' H' σ' ρ') (cx : CxW Z K F G) : RepX Z K F ((.ref D, .l acc') :: G) M' H' σ' ρ' := ⟨R', fun ex cls d ρ' M' σ' H' r' => cx ex cls d ρ' M' σ' H' r'.pop⟩
/-- no wish of exceptions can hang on the list that is made -/
def ImpK' (Z : XC) (K : KW) (vs : List Nat) (t : TK) (wk : WK) : Prop := ∀ (F : Frm) (G : List (V × T)) (M : MS) (σ : L2.St) (H : Hp) (ρ : DE) (D : Addr) (acc : List PyData), CxW Z K F G → RepS K F ((.ref D, .l acc) :: G) M H σ ρ → ∀ P, wk ρ acc P → ∀ Nx : Hp → Prop,
  (∀ acc' ρ' M' H', RepS K F ((.ref D, .l acc') :: G) M' H' (L2.wipe σ vs) ρ' → (∀ (j : Nat) (y : Sl), ρ'[j]? = some (some y) → j ∉ vs) → P acc' ρ' → Nx H') → t D σ H Nx
theorem CxW.up {F : Frm} {G : List (V × T)} (c : CxW Z K F G) (g : V × T) : CxW Z K F (g :: G) := fun ex cls d ρ' M' σ' H' r' => c ex cls d ρ' M' σ' H' r'.pop
theorem imp_kapp (he : ImpE Z K te we) : ImpK' Z K [] (kApp te) (wkApp we) := by
  intro F G M σ H ρ D acc cx R P hw Nx k
  refine he F _ M σ H ρ ⟨R, cx.up _⟩ _ hw _ fun y ρ1 v M1 H1 R1 r1 ⟨hl, q⟩ => ?_
  obtain ⟨fp, rt, _⟩ := R1.r.top
  cases rt with
  | @l _ av _ hm e1 a1 =>
    refine ⟨av, e1, by rw [a1.length]; exact hl, ?_⟩
    exact k (acc ++ [y]) ρ1 M1 _ (R1.r.wrT (a1.append (.cons r1 .nil))) (fun _ _ _ z => by cases z) q
/-- the loop of a clause -/
theorem cl_turns {F : Frm} {G : List (V × T)} {M : MS} {σ : L2.St} {H : Hp} {ρ : DE} {D : Addr} {acc : List PyData} {J : It} {gi : V × T} {xs : List PyData} {P : List PyData → DE → Prop} {Nx : Hp → Prop} (hg : ImpGv K vs g wg) (ht : ImpT Z K tt wt) (hk : ImpK' Z K vs' tk wk) (hv : ∀ j ∈ vs', j ∈ vs)
    (ok : ItOk K J gi xs) (cx : CxW Z K F G) (R : RepS K F ((.ref D, .l acc) :: gi :: G) M H σ ρ) (q : clRec wg wt wk vs xs acc (wipeD ρ vs) P)
    (k : ∀ acc' ρ' M' H', RepS K F ((.ref D, .l acc') :: G) M' H' (L2.wipe σ vs) ρ' → (∀ (j : Nat) (y : Sl), ρ'[j]? = some (some y) → j ∉ vs) → P acc' ρ' → Nx H') :
    ∃ W : Nat → Nat → Hp → Prop, (∃ m, W 0 m H) ∧ turns J g tt tk vs σ D W Nx := by
  refine ⟨fun i m H' => i ≤ xs.length ∧ m = xs.length - i ∧ ∃ ρ' acc' M', RepS K F ((.ref D, .l acc') :: gi :: G) M' H' (L2.wipe σ vs) ρ' ∧ (∀ (j : Nat) (y : Sl), ρ'[j]? = some (some y) → j ∉ vs) ∧ clRec wg wt wk vs (xs.drop i) acc' ρ' P,
    ⟨xs.length, Nat.zero_le _, rfl, wipeD ρ vs, acc, M, (R.wipe vs).swap (wipe_length σ vs) fun i y e => wipe_out (wipeD_some e).2, fun j y e => (wipeD_some e).2, q⟩, ?_⟩
  rintro i m H' ⟨hi1, rfl, ρ', acc', M', R', hv', q'⟩
  obtain ⟨fp, rt, _⟩ := R'.exch.top
  by_cases hlt : i < xs.length
  · right
    have hx : xs[i]? = some xs[i] := List.getElem?_eq_getElem hlt
    obtain ⟨go, yl⟩ := ok.go M' H' fp R'.ml rt i _ hx
    rw [List.drop_eq_getElem_cons hlt] at q'
    refine ⟨go, fun H2 => ∃ ρ2 acc2 M2, RepS K F ((.ref D, .l acc2) :: gi :: G) M2 H2 (L2.wipe σ vs) ρ2 ∧ (∀ (j : Nat) (y : Sl), ρ2[j]? = some (some y) → j ∉ vs) ∧ clRec wg wt wk vs (xs.drop (i + 1)) acc2 ρ2 P,
      fun H2 z => ⟨xs.length - (i + 1), by omega, hlt, rfl, z⟩, fun v H'' y => ?_⟩
    obtain ⟨s2, r2⟩ := yl v H'' y
    refine hg F _ M' _ H'' ρ' (R'.same s2) _ v r2 _ q' _ fun ρ3 σ3 H3 R3 s3 w3 q3 => ⟨by rw [w3, wipe_wipe], ?_⟩
    have w3' : L2.wipe σ3 vs = L2.wipe σ vs := by rw [w3, wipe_wipe]
    have back : ∀ {σ4 : L2.St} {M4 : MS} {H4 : Hp} {ρ4 : DE} {G4 : List (V × T)}, L2.wipe σ4 vs = L2.wipe σ vs → RepS K F G4 M4 H4 σ4 ρ4 → RepS K F G4 M4 H4 (L2.wipe σ vs) (wipeD ρ4 vs) := fun {σ4 M4 H4 ρ4 G4} w4 r4 => (r4.wipe vs).swap (by rw [← w4, wipe_length]) fun j y e => by rw [← w4]; exact wipe_out (wipeD_some e).2
    refine ht F _ M' σ3 H3 ρ3 ⟨R3, (cx.up gi).up _⟩ _ q3 _ fun bb ρ4 M4 H4 R4 q4 => ?_
    cases bb with
    | true =>
      rw [if_pos rfl] at q4 ⊢
      refine hk F _ M4 σ3 H4 ρ4 D acc' (cx.up gi) R4.r _ q4 _ fun acc5 ρ5 M5 H5 R5 hv5 q5 => ?_
      refine ⟨_, acc5, M5, back ?_ R5, fun j y e => (wipeD_some e).2, q5⟩
      rw [wipe_sub hv]
      exact w3'
    | false =>
      rw [if_neg Bool.false_ne_true] at q4 ⊢
      exact ⟨_, acc', M4, back w3' R4.r, fun j y e => (wipeD_some e).2, q4⟩
  · left
    have e : i = xs.length := by omega
    subst e
    rw [List.drop_length] at q'
    exact ⟨ok.stop M' H' fp R'.ml rt, k acc' ρ' M' H' R'.exch.pop hv' q'⟩
theorem imp_kcl (hi : ImpI Z K wi wj) (hg : ImpGv K vs g wg) (ht : ImpT Z K tt wt) (hk : ImpK' Z K vs' tk wk) (hv : ∀ j ∈ vs', j ∈ vs) : ImpK' Z K vs (kCl wi g tt tk vs) (wkCl wj wg wt wk vs) := by
  intro F G M σ H ρ D acc cx R P hw Nx k
  refine hi F _ M σ H ρ ⟨R, cx.up _⟩ _ hw _ fun xs ρ1 J gi M1 H1 R1 ok q => ?_
  exact cl_turns hg ht hk hv ok cx R1.r.exch q k
theorem imp_lcN {g : BF TG} {tt : BF TT} {tk : BF TK} (hi : ImpI Z K wi wj) (hg : ∀ s H C cl fp, ImpGv K vs (g s H C cl fp) wg) (ht : ∀ s H C cl fp, ImpT Z K (tt s H C cl fp) wt) (hk : ∀ s H C cl fp, ImpK' Z K vs' (tk s H C cl fp) wk) (hv : ∀ j ∈ vs', j ∈ vs) : ImpN Z K (tLcN wi g tt tk vs) (wLcN wj wg wt wk vs) := by
  intro F G M σ H ρ R P hw Q k
  refine hi F G M σ H ρ R _ hw _ fun xs ρ1 J gi M1 H1 R1 ok q => ?_
  intro D hD bs bH bC bl bf
  have R2 := R1.r.new hD (o := .lst []) trivial (.l (.inr rfl) upd_same .nil)
  refine cl_turns (hg bs bH bC bl bf) (ht bs bH bC bl bf) (hk bs bH bC bl bf) hv ok R.cx R2 q fun acc' ρ' M' H' R' hv' q' => ?_
  exact k _ ρ' _ M' H' (R.up (R'.swap (wipe_length σ vs).symm fun j y e => (wipe_out (hv' j y e)).symm)) q'
/-- the clauses behind, over data -/
structure PKt (Z : XC) (Y : Cx) (yes : Env → Value → Sem Fin → Sem Fin) (vs : List Nat) (t : TK) (wk : WK) : Prop where
  p : PAct Y yes vs t
  i : ImpK' Z Y.kw vs t wk
theorem kt_last {Y : Cx} (h : PEd Z Y elt te we) (hx : Y.xe = fun _ _ => False := by rfl) : PKt Z Y (lastG elt) [] (kApp te) (wkApp we) := ⟨act_last hx h.p, imp_kapp h.i⟩
theorem kt_cl {Y : Cx} {el : Expr} {gl : List Comprehension} {sl : Scope} {pl : Pos} {k : Nat} {yes : Env → Value → Sem Fin → Sem Fin} (vs : List Nat) (hT : TurnsAs (.ListComp el gl sl pl) k tg iter ifs yes) (hS : StartsAs (.ListComp el gl sl pl) k) (pi : PId Z Y tg iter wi wj) (pg : PG Y tg g) (hgv : ImpGv Y.kw vs g wg)
    (pt : PTs Y ifs tt) (hti : ImpT Z Y.kw tt wt) (pa : PKt Z Y yes vs' tk wk) (hv : ∀ j ∈ vs', j ∈ vs := by decide) (hx : Y.xe = fun _ _ => False := by rfl) (hc : Y.calm = true := by rfl) (hs : ∀ x, foldedSetIterable iter Y.env x = pure x := by intro _; rfl) : PKt Z Y (midG (.ListComp el gl sl pl) k iter) vs (kCl wi g tt tk vs) (wkCl wj wg wt wk vs) :=
  ⟨act_cl hc hx hT hS pi.p pg pt pa.p hv hs, imp_kcl pi.i hgv hti pa.i hv⟩
theorem d_lcN {g : BF TG} {tt : BF TT} {tk : BF TK} {gs : List Comprehension} {scope : Scope} {own : List (Str × Nat)} {yes : Env → Value → Sem Fin → Sem Fin} (hN : X.N.Nodup) (hi : PId Z X tg iter wi wj) (ok : BlkOk X.N X.env.scope scope own) (hT : TurnsAs (.ListComp elt (⟨tg, iter, ifs, 0⟩ :: gs) scope pos) 0 tg iter ifs yes)
    (hg : ∀ (s : Shared) (H : Hp) (C : Addr) (cl : List (Str × Addr)) (fp : List Addr), PG (X.blk s H scope (compEnvC scope cl C X.env) fp) tg (g s H C cl fp)) (hgv : ∀ s H C cl fp, ImpGv X.kw (own.map (·.2)) (g s H C cl fp) wg)
    (ht : ∀ (s : Shared) (H : Hp) (C : Addr) (cl : List (Str × Addr)) (fp : List Addr), PTs (X.blk s H scope (compEnvC scope cl C X.env) fp) ifs (tt s H C cl fp)) (hti : ∀ s H C cl fp, ImpT Z X.kw (tt s H C cl fp) wt)
    (ha : ∀ (s : Shared) (H : Hp) (C : Addr) (cl : List (Str × Addr)) (fp : List Addr), PKt Z (X.blk s H scope (compEnvC scope cl C X.env) fp) yes vs' (tk s H C cl fp) wk) (hv : ∀ j ∈ vs', j ∈ own.map (·.2) := by decide) (hc : X.calm = true := by rfl) (hs : ∀ x, foldedSetIterable iter X.env x = pure x := by intro _; rfl) :
    PNd Z X (.ListComp elt (⟨tg, iter, ifs, 0⟩ :: gs) scope pos) (tLcN wi g tt tk (own.map (·.2))) (wLcN wj wg wt wk (own.map (·.2))) :=
  ⟨pe_lcN (okc := calmC) (fun _ _ _ => hc) hN (pi_g hi.p) ok hT hv hg ht (fun s H C cl fp => (ha s H C cl fp).p) hs, imp_lcN hi.i hgv hti (fun s H C cl fp => (ha s H C cl fp).i) hv⟩
/-- x = [..] on one line -/
theorem s_takeC {g : BF TG} {tt : BF TT} {tk : BF TK} {gs : List Comprehension} {scope : Scope} {own : List (Str × Nat)} {yes : Env → Value → Sem Fin → Sem Fin} {i : Nat} {y : Str} {py spos : Pos} (hN : X.N.Nodup) (hi : PId Z X tg iter wi wj) (ok : BlkOk X.N X.env.scope scope own) (hT : TurnsAs (.ListComp elt (⟨tg, iter, ifs, 0⟩ :: gs) scope pos) 0 tg iter ifs yes)
    (hg : ∀ (s : Shared) (H : Hp) (C : Addr) (cl : List (Str × Addr)) (fp : List Addr), PG (X.blk s H scope (compEnvC scope cl C X.env) fp) tg (g s H C cl fp)) (hgv : ∀ s H C cl fp, ImpGv X.kw (own.map (·.2)) (g s H C cl fp) wg)
    (ht : ∀ (s : Shared) (H : Hp) (C : Addr) (cl : List (Str × Addr)) (fp : List Addr), PTs (X.blk s H scope (compEnvC scope cl C X.env) fp) ifs (tt s H C cl fp)) (hti : ∀ s H C cl fp, ImpT Z X.kw (tt s H C cl fp) wt)
    (ha : ∀ (s : Shared) (H : Hp) (C : Addr) (cl : List (Str × Addr)) (fp : List Addr), PKt Z (X.blk s H scope (compEnvC scope cl C X.env) fp) yes vs' (tk s H C cl fp) wk) (hv : ∀ j ∈ vs', j ∈ own.map (·.2) := by decide) (hy : X.N[i]? = some y := by rfl) (hyl : X.env.scope.names.lookup y = some .local := by rfl) (hsw : swapsWith (.ListComp elt (⟨tg, iter, ifs, 0⟩ :: gs) scope pos) (some (.Name y py)) spos.line X.env = pure true := by rfl) (hc : X.calm = true := by rfl) (hs : ∀ x, foldedSetIterable iter X.env x = pure x := by intro _; rfl) :
    PSd Z X (.Assign [.Name y py] (.ListComp elt (⟨tg, iter, ifs, 0⟩ :: gs) scope pos) spos) (tAsg (tLcN wi g tt tk (own.map (·.2))) (gName i)) (wTake (wLcN wj wg wt wk (own.map (·.2))) i) :=
  ⟨ps_setN hc hN hy hyl hsw hi.p ok hT hv hg ht (fun s H C cl fp => (ha s H C cl fp).p) hs, imp_take (imp_lcN hi.i hgv hti (fun s H C cl fp => (ha s H C cl fp).i) hv) i⟩
end
end Dat
set_option Elab.async false
set_option linter.all false
set_option maxRecDepth 100000
set_option maxHeartbeats 4000000
namespace Dat
open PySem PySem.Spec PyProof.Rows L2
section
variable {Z : XC} {K : KW} {X : Cx} {tg a b c e : Expr} {es : List Expr} {ta tb tc te : TE} {wa wb wc we : WE} {pos : Pos} {tt : TT} {wt : WT} {tr : TA} {wr : WA}
variable {st : Stmt} {rest : List Stmt} {t u : TS} {w w2 : WS}
/-! ### isinstance(x, T), T built in -/
def tyName : PyData → String
  | .none => "NoneType"
  | .bool _ => "bool"
  | .int _ => "int"
  | .str _ => "str"
  | .list _ => "list"
  | .tuple _ => "tuple"
  | .dict _ => "list"
def isExc : PyData → Bool
  | .dict ((.str _, _) :: _) => true
  | _ => false
def fIsi (T : String) : PyData → Option PyData
  | .dict ((.str _, _) :: _) => none
  | x => (kitB (tyName x) T).map .bool
theorem fIsi_some {T : String} {x z : PyData} (e : fIsi T x = some z) : isExc x = false ∧ ∃ bb, kitB (tyName x) T = some bb ∧ PyData.bool bb = z := by
  unfold fIsi at e
  split at e
  · cases e
  · rename_i h
    refine ⟨?_, Option.map_eq_some_iff.mp e⟩
    unfold isExc
    split
    · rename_i s t u
      exact (h s t u rfl).elim
    · rfl
theorem ty_rp {M : MS} {H : Hp} {x : PyData} {v : V} (hx : isExc x = false) (r : Rp K M H v x) : TyX K H v (.type (tyName x)) := by
  cases r with
  | non => exact .base .non
  | bl b => exact .base (.bl b)
  | int i => exact .base (.int i)
  | str s => exact .base (.str s)
  | lst n e h => exact .base (.lst e)
  | tup e h =>
    rcases e with (e | ⟨o, e⟩) | ⟨o, its, n, hk, hc, _⟩
    · exact .base (.tup e)
    · exact .fTuple e
    · exact .kTuple hk hc
  | exc e =>
    subst e
    cases hx
  | ins e =>
    subst e
    cases hx
  | scr e h =>
    rcases h with ⟨_, e | ⟨o, e⟩⟩ | h
    · exact .base (.lst e)
    · exact .base (.frz e)
    · rcases h (fun _ => none) with (z | ⟨o, z⟩) | ⟨o, its, n, hk, hc, _⟩
      · cases z
      · cases z
      · exact .kList hk hc
theorem d_isi {T : String} {x2 : Str} {p p2 : Pos} (hm : X.mg "isinstance" = none) (hm2 : X.mg x2 = none) (hv2 : bootBuiltins x2 = some (.type T)) (ha : PEd Z X a ta wa) (hg : Gl X "isinstance" := by rfl) (hg2 : Gl X x2 := by rfl)
    (hn : x2 ≠ "__name__" := by decide) (hd : (x2 == ("__debug__" : Str)) = false := by decide)
    (he : starEach [a, .Name x2 p2] X.env = (false, eval a X.env) :: starEach [.Name x2 p2] X.env := by rfl) (he2 : starEach [.Name x2 p2] X.env = (false, eval (.Name x2 p2) X.env) :: starEach [] X.env := by rfl) (hpl : (backTo pos (starEach [.Name x2 p2] X.env)).any (·.1) = false := by rfl) :
    PEd Z X (.Call (.Name "isinstance" p) [a, .Name x2 p2] [] pos) (tCB (rIsi X.K) (tCons ta (tCons (tC (.ty T)) tNil))) (wUn (fIsi T) wa) := by
  refine ⟨pe_callB call_isi hg hm (by decide +kernel) (pa_cons ha.p (pa_cons (pe_bltn hg2 hm2 hv2 rfl hn hd) pa_nil he2) he) (by decide) (by decide) he hpl, fun F G M σ H ρ R P hw Q k => ?_⟩
  refine ha.i F G M σ H ρ R _ hw _ fun x ρ1 v M1 H1 R1 r1 ⟨z, e, q⟩ => ?_
  obtain ⟨hx, bb, e1, e2⟩ := fIsi_some e
  subst e2
  exact ⟨v, .ty T, _, _, bb, rfl, .ty T, ty_rp hx r1, kit_ty e1, k _ ρ1 _ M1 H1 R1 (.bl bb) q⟩

/-! ### repr of data -/
def fRepr (x : PyData) : Option PyData := if (x.showable && SeqAt.shaped x && decide (x.shown.length ≤ sizeLine)) = true then some (.str x.shown) else none
def rRepr (K : KW) : List V → Hp → VK → Prop := fun xs H Q => ∃ x d, xs = [x] ∧ Dp K H x d ∧ d.showable = true ∧ SeqAt.shaped d = true ∧ d.shown.length ≤ sizeLine ∧ Q (.str d.shown) H
theorem call_reprD (hg : X.A.guards = some []) (hu : X.A.units + 80 < cLine) : CallR X (.builtin "repr") (rRepr X.kw) := by
  intro pins s σ H xs us Q I r h
  obtain ⟨x, d, rfl, hd, hs, hsh, hz, q⟩ := h
  obtain ⟨u, rfl, rx⟩ := vals1 r
  obtain ⟨as, rd⟩ := Dp.reads I d x u hd rx
  have hdep := SeqAt.depth_of_shaped hsh
  have hnd : d.hasDict = false := PyData.hasDict_of_canLay d (SeqAt.canLay_of_shaped hsh)
  cases rd with
  | none => exact PySem.P.repr_of_none ⟨.str _, H, I.tok _, ⟨_, rfl⟩, q⟩
  | bool bb => exact PySem.P.repr_of_bool ⟨.str _, H, I.tok _, ⟨_, rfl⟩, q⟩
  | int i tk => exact PySem.P.repr_of_int (by simpa [PyData.showable] using hs) ⟨.str _, H, I.tok _, ⟨_, rfl⟩, q⟩
  | str x tk => exact PySem.P.repr_of_str ⟨.str _, H, I.tok _, ⟨_, rfl⟩, q⟩ hz
  | list h1 h2 h3 h4 =>
    exact repr_of_reads' (.list h1 h2 h3 h4) hs (PyData.noDict_hsm hnd) hg (by omega) (fun _ _ e => e) (fun h' u' tk hk => ⟨.str _, H, I.kept (t' := tk) hk, ⟨_, rfl⟩, q⟩) hz
  | tuple h1 h2 h3 h4 =>
    exact repr_of_reads' (.tuple h1 h2 h3 h4) hs (PyData.noDict_hsm hnd) hg (by omega) (fun _ _ e => e) (fun h' u' tk hk => ⟨.str _, H, I.kept (t' := tk) hk, ⟨_, rfl⟩, q⟩) hz
  | dict _ _ _ _ _ => simp [PyData.hasDict] at hnd
theorem l_repr : LiftC K (rRepr K) (f1 fRepr) := by
  intro M H xs z vs ml e r Q k
  replace e := f1_some e
  obtain ⟨x, rfl, e⟩ := e
  unfold fRepr at e
  split at e
  · rename_i h
    cases e
    rw [Bool.and_eq_true, Bool.and_eq_true, decide_eq_true_eq] at h
    cases r with
    | cons r t =>
      cases t
      exact ⟨_, x, rfl, Rp.dp x _ (nodict h.1.2) r, h.1.1, h.1.2, h.2, k _ H (Same.refl H) (.str _)⟩
  · cases e
/-- all of a list of truth values -/
def boolsD : List PyData → Option (List Bool)
  | [] => some []
  | .bool b :: r => (boolsD r).map (b :: ·)
  | _ => none
def fAll : PyData → Option PyData
  | .list xs => (boolsD xs).map fun bs => .bool (bs.all id)
  | _ => none
theorem bools_rp {M : MS} {H : Hp} : ∀ {xs : List PyData} {vs : List V} {bs : List Bool}, RpAll K M H vs xs → boolsD xs = some bs → vs = bs.map V.bl
  | [], _, _, .nil, e => by cases e; rfl
  | x :: xs, _, bs, .cons r t, e => by
    cases r <;> first | (simp [boolsD] at e; done) | skip
    rename_i b
    simp only [boolsD] at e
    obtain ⟨bs', e1, e2⟩ := Option.map_eq_some_iff.mp e
    subst e2
    rw [bools_rp t e1]
    rfl
theorem l_all : LiftC K (rAll K) (f1 fAll) := by
  intro M H xs z vs ml e r Q k
  replace e := f1_some e
  obtain ⟨x, rfl, e⟩ := e
  cases r with
  | cons r t =>
    cases t
    cases r with
    | lst n1 e1 h1 =>
      simp only [fAll] at e
      obtain ⟨bs, e2, e3⟩ := Option.map_eq_some_iff.mp e
      subst e3
      have q := bools_rp h1 e2
      subst q
      exact ⟨_, bs, rfl, SqL.of e1, k _ H (Same.refl H) (.bl _)⟩
    | _ => simp [fAll] at e
theorem c_chain {op op' : CmpOp} {r r' : R2} {f g : PyData → PyData → Option PyData} (ho : OpR X (compareOp op) r) (ho' : OpR X (compareOp op') r') (l : LiftR X.kw r f) (l' : LiftR X.kw r' g) (ha : PEd Z X a ta wa) (hb : PEd Z X b tb wb) (hc : PEd Z X c tc wc)
    (hm : lastMarks [op, op'] [b, c] = false := by with_unfolding_all rfl) : PTd Z X (.Compare a [op, op'] [b, c] pos) (tTest (tChain r r' ta tb tc)) (wTest (wChain f g wa wb wc)) := ⟨pt_chain ho ho' ha.p hb.p hc.p hm, imp_test (imp_chain l l' ha.i hb.i hc.i)⟩
theorem d_chain {op op' : CmpOp} {r r' : R2} {f g : PyData → PyData → Option PyData} (ho : OpR X (compareOp op) r) (ho' : OpR X (compareOp op') r') (l : LiftR X.kw r f) (l' : LiftR X.kw r' g) (ha : PEd Z X a ta wa) (hb : PEd Z X b tb wb) (hc : PEd Z X c tc wc)
    (hm : lastMarks [op, op'] [b, c] = false := by with_unfolding_all rfl) : PEd Z X (.Compare a [op, op'] [b, c] pos) (tChain r r' ta tb tc) (wChain f g wa wb wc) := ⟨pe_chain ho ho' ha.p hb.p hc.p hm, imp_chain l l' ha.i hb.i hc.i⟩
end

/-! ### a, *b = t -/
theorem unpackStarT {prog : Program} {w : World} {A : Around} {E : Value → Shared → Prop} {s : Shared} {t : Addr} {items : Array Value} {i : Nat} {Q : List Value → Shared → Prop} (hh : A.handled = none) (ht : IsTup s.heap t items) (hi : i ≤ items.size) (hz : items.size ≤ 16384)
    (hQ : ∀ (h' : Heap) (tk : Nat), (∀ b o, s.heap.get? b = some o → h'.get? b = some o) → Q (items.toList.take i ++ [.ref h'.objs.size]) { s with heap := h'.push { cls := .type "list", data := .seq (items.toList.drop i).toArray }, toks := tk }) :
    wpAny (model prog w) A (unpackItems (.ref t) (i + 1) (some i)) Q E s := by
  obtain ⟨o0, ho0, _⟩ := id ht
  have hne : t ≠ s.heap.objs.size := Nat.ne_of_lt (Heap.lt_size ho0)
  unfold unpackItems
  refine wpAny_bind ?_
  unfold notIterableAtAll
  refine wpAny_bind (wpAny_specialOf ht.typeIs slot_tuple_iter.lookup (wpAny_pure ?_))
  simp only [Bool.false_eq_true, if_false]
  refine wpAny_bind (wpAny_holding (iter_tuple ht ?_))
  refine wpAny_bind (wpAny_holding (draw_tuple hne i 0 _ _ ⟨_, Heap.get?_push_size _ rfl, rfl, rfl⟩ (ht.push _) (by omega) fun h1 it1 sb1 => ?_))
  have ht1 : IsTup h1 t items := (ht.push _).extBut sb1.extBut hne
  rw [Nat.zero_add] at it1
  obtain ⟨oi, hoi, _⟩ := id it1
  obtain ⟨ol, hol, _⟩ := id ht1
  rw [List.drop_zero, if_neg (by rw [List.length_take, Array.length_toList]; omega)]
  refine wpAny_bind (wpAny_holding (PySem.W.kun_collect (s := { s with heap := h1 }) (T := "tuple_iterator") (.inr (.inr (.inr rfl))) (Walks.tuple (A := A.in1) hh s.heap.objs.size t hne items) (fun j u st => st.1.typeIs) (k := i) hi ⟨it1, ht1⟩ (Heap.lt_size hoi) (Heap.lt_size hol) (fun h2 tk kp => ?_) (by rw [sizeLine_eq]; omega)))
  have hl : (items.toList.drop i).length - (i + 1 - 1 - i) = (items.toList.drop i).length := by omega
  show wpAny _ _ (if (items.toList.drop i).length < i + 1 - 1 - i then _ else _) _ _ _
  rw [if_neg (by omega)]
  show wpAny _ _ (newList ((items.toList.drop i).take ((items.toList.drop i).length - (i + 1 - 1 - i))) >>= fun d => pure (items.toList.take i ++ [d] ++ (items.toList.drop i).drop ((items.toList.drop i).length - (i + 1 - 1 - i)))) _ _ _
  rw [hl, List.take_length, List.drop_length]
  refine wpAny_bind (wpAny_newObj_type (wpAny_pure ?_) (by show (items.toList.drop i).toArray.size ≤ sizeLine; rw [List.size_toArray, List.length_drop, Array.length_toList, sizeLine_eq]; omega))
  rw [List.append_nil]
  exact hQ h2 tk fun b o e => kp b o (Nat.ne_of_lt (Heap.lt_size e)) (sb1.extBut b o (Nat.ne_of_lt (Heap.lt_size e)) (Heap.get?_push_of_some _ e))
section
variable {Z : XC} {K : KW} {X : Cx} {tg a b c e : Expr} {es : List Expr} {ta tb tc te : TE} {wa wb wc we : WE} {pos p1 : Pos} {tr : TA} {wr : WA}
def gStar (K : KW) (i : Nat) (t : TGs) : TG := fun v σ H Q => ∃ a xs, v = .ref a ∧ SqT K H a xs ∧ i ≤ xs.length ∧ xs.length ≤ 16384 ∧ ∀ p, H p = none → t (xs.take i ++ [.ref p]) σ (upd H p (.lst (xs.drop i))) Q
theorem pg_star {k i : Nat} {t : TGs} (hc : X.calm = true) (h : PGs X es t) (hn : (assignEach es X.env).length = i + 1) (hst : (assignEach es X.env).findIdx? (·.1) = some i) : PG X (.Tuple es k pos) (gStar X.kw i t) := by
  refine ⟨fun pins s σ H v u Q I r hw => ?_⟩
  obtain ⟨a, xs, e1, hq, h1, h2, hw⟩ := hw
  subst e1
  cases r
  obtain ⟨its, rv, ht, hz⟩ := I.tuple hq
  have hl := rv.length
  rw [assign_Tuple]
  refine wpAny_bind (wpAny_standAt ?_)
  unfold unpack
  rw [hn, hst]
  refine wpAny_bind (wpAny_holding (unpackStarT (I.ok.hd hc) ht (by rw [List.size_toArray]; omega) (by rw [List.size_toArray]; omega) fun h' tk kp => ?_))
  have I1 : Inv X pins σ H { s with heap := h', toks := tk } := I.kept kp
  have I2 := I1.lnew (its := its.drop i) (t' := tk) (rv.drop i) (by rw [List.length_drop]; omega)
  exact h.run pins _ σ _ (xs.take i ++ [.ref h'.objs.size]) _ Q I2 ((rv.take i).append (.cons (show L2.RelV (.ref h'.objs.size) (.ref h'.objs.size) from rfl) .nil)) (hw _ I1.fresh)
theorem pgs_star {t : TG} {u : TGs} (h1 : PG X e t) (h2 : PGs X es u) (hs : (assignEach (.Starred e p1 :: es) X.env).map (·.2) = assign e X.env :: (assignEach es X.env).map (·.2) := by rfl) : PGs X (.Starred e p1 :: es) (gCons t u) := by
  refine ⟨fun pins s σ H vs us Q I r h => ?_⟩
  obtain ⟨v, vr, e1, h⟩ := h
  subst e1
  cases r with
  | cons r rr =>
    rw [hs]
    refine assignInOrder_cons (thn (h1.run pins s σ H _ _ _ I r h) fun _ s1 ⟨σ1, H1, I1, q1⟩ => ?_)
    exact h2.run pins s1 σ1 H1 _ _ Q I1 rr q1
def wgStar (i : Nat) (wg : WGs) : WG := fun x ρ P => ∃ xs, x = .tuple xs ∧ i ≤ xs.length ∧ xs.length ≤ 16384 ∧ wg (xs.take i ++ [.list (xs.drop i)]) ρ P
theorem g_star {k i : Nat} {g : TGs} {wg : WGs} (h : PGsd X es g wg) (hc : X.calm = true := by rfl) (hn : (assignEach es X.env).length = i + 1 := by rfl) (hst : (assignEach es X.env).findIdx? (·.1) = some i := by rfl) : PGd X (.Tuple es k pos) (gStar X.kw i g) (wgStar i wg) := by
  refine ⟨pg_star hc h.p hn hst, fun F G M σ H ρ R x v r P hp Q kk => ?_⟩
  obtain ⟨xs, e, h1, h2, hp⟩ := hp
  subst e
  cases r with
  | @tup _ us _ e1 a1 =>
    refine ⟨_, us, rfl, e1, by rw [a1.length]; exact h1, by rw [a1.length]; exact h2, fun p hn => ?_⟩
    have s1 := same_new (o := .lst (us.drop i)) hn
    exact h.i F G M σ _ ρ (R.same s1) _ _ (((a1.take i).same R.ml s1).append (.cons (rp_newL R.ml hn (a1.drop i)) .nil)) P hp Q fun ρ' σ' H' R' s2 q => kk ρ' σ' H' R' (s1.trans s2) q
theorem gs_star {g : TG} {gr : TGs} {wg : WG} {wgr : WGs} (h1 : PGd X e g wg) (h2 : PGsd X es gr wgr) (hs : (assignEach (.Starred e p1 :: es) X.env).map (·.2) = assign e X.env :: (assignEach es X.env).map (·.2) := by rfl) : PGsd X (.Starred e p1 :: es) (gCons g gr) (wgCons wg wgr) := by
  refine ⟨pgs_star h1.p h2.p hs, fun F G M σ H ρ R xs vs r P hp Q k => ?_⟩
  obtain ⟨x, xr, e, hp⟩ := hp
  subst e
  cases r with
  | cons r1 r2 =>
    refine ⟨_, _, rfl, h1.i F G M σ H ρ R _ _ r1 _ hp _ fun ρ1 σ1 H1 R1 s1 q1 => ?_⟩
    exact h2.i F G M σ1 H1 ρ1 R1 _ _ (r2.same R.ml s1) _ q1 _ fun ρ2 σ2 H2 R2 s2 q2 => k ρ2 σ2 H2 R2 (s1.trans s2) q2

/-! ### slices -/
def fSl (lo hi : Option Int) : PyData → Option PyData
  | .list xs => some (.list ((xs.drop (HT.sIx xs.length 0 lo)).take (HT.sIx xs.length xs.length hi - HT.sIx xs.length 0 lo)))
  | .tuple xs => some (.tuple ((xs.drop (HT.sIx xs.length 0 lo)).take (HT.sIx xs.length xs.length hi - HT.sIx xs.length 0 lo)))
  | _ => none
def WO := DE → (Option Int → DE → Prop) → Prop
def ImpO (Z : XC) (K : KW) (t : TO) (w : WO) : Prop := ∀ (F : Frm) (G : List (V × T)) (M : MS) (σ : L2.St) (H : Hp) (ρ : DE), RepX Z K F G M H σ ρ → ∀ P, w ρ P → ∀ Q : Option Int → Hp → Prop,
  (∀ o ρ' M' H', RepX Z K F G M' H' σ ρ' → P o ρ' → Q o H') → t σ H Q
structure POd (Z : XC) (X : Cx) (e : Option Expr) (t : TO) (w : WO) : Prop where
  p : PO X e t
  i : ImpO Z X.kw t w
def woNone : WO := fun ρ P => P none ρ
def woSome (we : WE) : WO := fun ρ P => we ρ fun x ρ1 => ∃ i, x = .int i ∧ P (some i) ρ1
theorem o_none : POd Z X none tNoPart woNone := ⟨po_none, fun F G M σ H ρ R P hp Q k => k none ρ M H R hp⟩
theorem o_some (h : PEd Z X e te we) : POd Z X (some e) (tPart te) (woSome we) := by
  refine ⟨po_some h.p, fun F G M σ H ρ R P hp Q k => ?_⟩
  refine h.i F G M σ H ρ R _ hp _ fun x ρ1 v M1 H1 R1 r1 ⟨i, e, q⟩ => ?_
  subst e
  cases r1
  exact ⟨i, rfl, k _ ρ1 M1 H1 R1 q⟩
def rSlD (K : KW) : V → Option Int → Option Int → Hp → VK → Prop := fun x lo hi H Q => rSlL K x lo hi H Q ∨ rSlA K x lo hi H Q
def wSl (we : WE) (wl wh : WO) : WE := fun ρ P => we ρ fun x ρ1 => wl ρ1 fun lo ρ2 => wh ρ2 fun hi ρ3 => ∃ z, fSl lo hi x = some z ∧ P z ρ3
theorem d_slice {lo hi : Option Expr} {tl th : TO} {wl wh : WO} {p2 : Pos} (he : PEd Z X e te we) (hl : POd Z X lo tl wl) (hh : POd Z X hi th wh) : PEd Z X (.Subscript e (.Slice lo hi none p2) pos) (tSl (rSlD X.kw) te tl th) (wSl we wl wh) := by
  refine ⟨pe_slice (SlR.or sl_list sl_tupA) he.p hl.p hh.p, fun F G M σ H ρ R P hw Q k => ?_⟩
  refine he.i F G M σ H ρ R _ hw _ fun x ρ1 v M1 H1 R1 r1 hw1 => ?_
  refine hl.i F _ M1 σ H1 ρ1 (R1.push r1) _ hw1 _ fun l ρ2 M2 H2 R2 hw2 => ?_
  refine hh.i F _ M2 σ H2 ρ2 R2 _ hw2 _ fun u ρ3 M3 H3 R3' ⟨z, e, hp⟩ => ?_
  have r3 := R3'.r.topD
  have R3 : RepX Z X.kw F G M3 H3 σ ρ3 := R.to R3'.r.pop
  cases r3 with
  | lst n1 e1 h1 =>
    cases e
    refine .inl ⟨_, _, rfl, SqL.of e1, fun p hp' => k _ ρ3 _ M3 _ (R3.same (same_new hp')) ?_ hp⟩
    unfold cutV
    rw [h1.length]
    exact rp_newL R3.ml hp' ((h1.drop _).take _)
  | tup e1 h1 =>
    cases e
    refine .inr ⟨_, _, rfl, e1, fun hw' => ?_, fun _ p hp' => k _ ρ3 _ M3 _ (R3.same (same_new hp')) ?_ hp⟩
    · rw [h1.length] at hw'
      refine k _ ρ3 _ M3 H3 R3 ?_ hp
      rw [hw'.1, hw'.2, List.drop_zero, Nat.sub_zero, List.take_length]
      exact .tup e1 h1
    · unfold cutV
      rw [h1.length]
      exact rp_newT R3.ml hp' ((h1.drop _).take _)
  | _ => simp [fSl] at e

def trsOf : List Str → List TE → List (TE × TE)
  | k :: ks, t :: ts => (tC (.str k), t) :: trsOf ks ts
  | _, _ => []
/-- the values of a display, from the left -/
inductive PVd (Z : XC) (X : Cx) (pos : Pos) : List (Option Expr) → List Expr → List Str → List TE → List WE → Prop
  | nil : PVd Z X pos [] [] [] [] []
  | cons {ks : List (Option Expr)} {vs : List Expr} {zs : List Str} {ts : List TE} {ws : List WE} {z : Str} {j : Nat} {kp : Pos} {e : Expr} {te : TE} {we : WE} : PEd Z X e te we → PVd Z X pos ks vs zs ts ws → PVd Z X pos (some (.Constant (.str z) j kp) :: ks) (e :: vs) (z :: zs) (te :: ts) (we :: ws)
def wVals : List WE → WA
  | [] => wNil
  | w :: ws => wCons w (wVals ws)
theorem PVd.pps {keys : List (Option Expr)} {vals : List Expr} {zs : List Str} {ts : List TE} {ws : List WE} (h : PVd Z X pos keys vals zs ts ws) : PPs X pos keys vals (trsOf zs ts) := by
  induction h with
  | nil => exact pps_nil
  | cons h1 h2 ih => exact pps_cons pe_str h1.p ih
theorem PVd.imp {keys : List (Option Expr)} {vals : List Expr} {zs : List Str} {ts : List TE} {ws : List WE} (h : PVd Z X pos keys vals zs ts ws) : ∀ (F : Frm) (G : List (V × T)) (M : MS) (σ : L2.St) (H : Hp) (ρ : DE), RepX Z X.kw F G M H σ ρ → ∀ P, wVals ws ρ P → ∀ Q : List (V × V) → Hp → Prop,
    (∀ xs ρ' vs M' H', RepX Z X.kw F G M' H' σ ρ' → RpAll X.kw M' H' vs xs → zs.length = vs.length → P xs ρ' → Q ((zs.map V.str).zip vs) H') → tPairs (trsOf zs ts) σ H Q := by
  induction h with
  | nil => intro F G M σ H ρ R P hp Q k; exact k [] ρ [] M H R .nil rfl hp
  | cons h1 h2 ih =>
    intro F G M σ H ρ R P hp Q k
    refine h1.i F G M σ H ρ R _ hp _ fun x ρ1 v M1 H1 R1 r1 hp1 => ?_
    refine ih F _ M1 σ H1 ρ1 (R1.push r1) _ hp1 _ fun xs ρ2 vs M2 H2 R2 r2 hl q => ?_
    exact k (x :: xs) ρ2 (v :: vs) M2 H2 (R.to R2.r.pop) (.cons R2.r.topD r2) (by rw [List.length_cons, List.length_cons, hl]) q
theorem PVd.len {keys : List (Option Expr)} {vals : List Expr} {zs : List Str} {ts : List TE} {ws : List WE} (h : PVd Z X pos keys vals zs ts ws) : keys.all (·.isSome) = true ∧ keys.length = vals.length ∧ keys.length = zs.length := by
  induction h with
  | nil => exact ⟨rfl, rfl, rfl⟩
  | cons h1 h2 ih => exact ⟨by rw [List.all_cons]; exact Bool.and_eq_true_iff.mpr ⟨rfl, ih.1⟩, by rw [List.length_cons, List.length_cons, ih.2.1], by rw [List.length_cons, List.length_cons, ih.2.2]⟩
def lookD : List Str → List PyData → Str → Option PyData
  | k :: ks, x :: xs, z => if k = z then some x else lookD ks xs z
  | _, _, _ => none
theorem mergeK_nodup : ∀ (zs : List Str) (vs : List V) (acc : List (Key × V)), zs.Nodup → (∀ z ∈ zs, valV acc (Sum.inr z : Key) = none) → mergeK acc (((zs.map (fun z => (Sum.inr z : Key))).zip vs)) = acc ++ ((zs.map (fun z => (Sum.inr z : Key))).zip vs)
  | [], vs, acc, _, _ => by simp [mergeK]
  | z :: zs, [], acc, _, _ => by simp [mergeK]
  | z :: zs, v :: vs, acc, hn, h => by
    have h1 : putK acc (Sum.inr z : Key) v = acc ++ [(Sum.inr z, v)] := putK_new v (h z (List.mem_cons_self))
    have hn' := List.nodup_cons.mp hn
    have ih := mergeK_nodup zs vs (acc ++ [(Sum.inr z, v)]) hn'.2 fun y hy => by
      have hne : z ≠ y := fun e => hn'.1 (e ▸ hy)
      have := h y (List.mem_cons_of_mem _ hy)
      unfold valV at this ⊢
      rw [List.find?_append]
      have h0 : acc.find? (fun kv => decide (kv.1 = (Sum.inr y : Key))) = none := by
        cases q : acc.find? (fun kv => decide (kv.1 = (Sum.inr y : Key))) with
        | none => rfl
        | some o => rw [q] at this; cases this
      rw [h0]
      have : (Sum.inr z : Key) ≠ Sum.inr y := fun e => hne (Sum.inr.inj e)
      simp [List.find?_cons, this]
    unfold mergeK at ih ⊢
    rw [List.map_cons, List.zip_cons_cons, List.foldl_cons, h1, ih, List.append_assoc]
    rfl
theorem val_zip {M : MS} {H : Hp} {z : Str} : ∀ {zs : List Str} {vs : List V} {xs : List PyData}, RpAll K M H vs xs → (match lookD zs xs z with
    | some x => ∃ v, valV ((zs.map (fun z => (Sum.inr z : Key))).zip vs) (Sum.inr z : Key) = some v ∧ Rp K M H v x
    | none => zs.length = vs.length → valV ((zs.map (fun z => (Sum.inr z : Key))).zip vs) (Sum.inr z : Key) = none)
  | [], _, _, _ => by simp [lookD, valV]
  | k :: ks, _, [], .nil => by simp [lookD]
  | k :: ks, v :: vs, x :: xs, .cons r t => by
    unfold lookD
    by_cases h : k = z
    · rw [if_pos h]
      exact ⟨v, by rw [List.map_cons, List.zip_cons_cons]; exact valV_pos (by rw [h]), r⟩
    · rw [if_neg h]
      have ih := val_zip (z := z) (zs := ks) t
      have hv : valV (((k :: ks).map (fun z => (Sum.inr z : Key))).zip (v :: vs)) (Sum.inr z : Key) = valV ((ks.map (fun z => (Sum.inr z : Key))).zip vs) (Sum.inr z) := by
        rw [List.map_cons, List.zip_cons_cons]
        exact valV_neg (fun e => h (Sum.inr.inj e))
      cases q : lookD ks xs z with
      | some y =>
        rw [q] at ih
        obtain ⟨u, e1, e2⟩ := ih
        exact ⟨u, by rw [hv]; exact e1, e2⟩
      | none =>
        rw [q] at ih
        intro hl
        rw [hv]
        exact ih (by simpa using hl)
theorem zip_kv (zs : List Str) (vs : List V) : (zs.map V.str).zip vs = ((zs.map (fun z => (Sum.inr z : Key))).zip vs).map fun kv => (kV kv.1, kv.2) := by
  rw [List.zip_map_left, List.zip_map_left, List.map_map]
  rfl
def wDisp (zs : List Str) (ws : List WE) (wk : WE) : WE := fun ρ P => wVals ws ρ fun xs ρ1 => wk ρ1 fun k ρ2 => ∃ z y, k = .str z ∧ lookD zs xs z = some y ∧ P y ρ2
def wDispG (zs : List Str) (ws : List WE) (wk wd : WE) : WE := fun ρ P => wVals ws ρ fun xs ρ1 => wk ρ1 fun k ρ2 => wd ρ2 fun d ρ3 => ∃ z, k = .str z ∧ P ((lookD zs xs z).getD d) ρ3
theorem rt_m1 {M : MS} {H : Hp} {kvs : List (PyData × PyData)} : ∀ v fp, RT K M H v (.m kvs) fp → ∃ p, v = .ref p ∧ fp = [p] := fun v fp r => by cases r with | m _ _ => exact ⟨_, rfl, rfl⟩
/-- what is held, as a dict of texts -/
theorem disp_at {M : MS} {H : Hp} {p : Addr} {zs : List Str} {xs : List PyData} (hl : zs.length = xs.length) {kvs : List (PyData × PyData)} (e : kvs = ((zs.map fun z => (Sum.inr z : Key)).map keyD).zip xs) (h : DictAt K M H p kvs) :
    ∃ vs, H p = some (.dK ((zs.map fun z => (Sum.inr z : Key)).zip vs)) ∧ RpAll K M H vs xs ∧ zs.length = vs.length := by
  cases h with
  | @k ks vs ys h1 h2 h3 =>
    have kl : ks.length = zs.length := by
      have q := congrArg List.length e
      rw [List.length_zip, List.length_zip, List.length_map, List.length_map, List.length_map] at q
      have := h3.length
      omega
    have e1 := congrArg (List.map Prod.fst) e
    rw [List.map_fst_zip (by rw [List.length_map, ← h3.length]; omega), List.map_fst_zip (by rw [List.length_map, List.length_map]; omega)] at e1
    have e2 := congrArg (List.map Prod.snd) e
    rw [List.map_snd_zip (by rw [List.length_map, ← h3.length]; omega), List.map_snd_zip (by rw [List.length_map, List.length_map]; omega)] at e2
    have inj : ∀ a b : Key, keyD a = keyD b → a = b := fun a b q => by
      cases a <;> cases b <;> simp [keyD] at q <;> rw [q]
    have minj : ∀ (l m : List Key), l.map keyD = m.map keyD → l = m := fun l => by
      induction l with
      | nil => intro m q; cases m with
        | nil => rfl
        | cons _ _ => cases q
      | cons a l ih => intro m q; cases m with
        | nil => cases q
        | cons b m =>
          rw [List.map_cons, List.map_cons] at q
          injection q with q1 q2
          rw [inj a b q1, ih m q2]
    have e3 : ks = zs.map fun z => (Sum.inr z : Key) := minj _ _ e1
    subst e2
    subst e3
    exact ⟨vs, h1, h3, by omega⟩
theorem disp_start {keys : List (Option Expr)} {vals : List Expr} {zs : List Str} {ts : List TE} {ws : List WE} (h : PVd Z X pos keys vals zs ts ws) (hn : zs.Nodup) (hz : zs.length ≤ 15) {F : Frm} {G : List (V × T)} {M : MS} {σ : L2.St} {H : Hp} {ρ : DE} (R : RepX Z X.kw F G M H σ ρ) {P : List PyData → DE → Prop} (hw : wVals ws ρ P) {Q : VK}
    (k : ∀ xs ρ' p M' H', RepX Z X.kw F ((.ref p, .m (((zs.map fun z => (Sum.inr z : Key)).map keyD).zip xs)) :: G) M' H' σ ρ' → zs.length = xs.length → P xs ρ' → Q (.ref p) H') : tDisp (trsOf zs ts) σ H Q := by
  intro p hp
  have R1 := R.r.new hp (o := .dK []) (t := .m []) trivial (.m (.inr rfl) (DictAt.k (ks := []) (vs := []) (xs := []) upd_same rfl .nil))
  refine h.imp F _ _ σ _ ρ (R.up R1) _ hw _ fun xs ρ2 vs M2 H2 R2 r2 hl q => ?_
  obtain ⟨fp, rt, _⟩ := R2.r.top
  have e0 : H2 p = some (.dK []) := by
    cases rt with
    | m _ d =>
      obtain ⟨vs', e1, e2, e3⟩ := disp_at (zs := []) (xs := []) rfl rfl d
      exact e1
  have hm := rt.mem p (by cases rt with | m _ _ => exact List.mem_cons_self)
  refine ⟨e0, _, zip_kv zs vs, by rw [List.length_zip, List.length_map]; omega, ?_⟩
  rw [mergeK_nodup zs vs [] hn fun _ _ => rfl, List.nil_append]
  have R3 := R2.r.wrT1 (o := .dK ((zs.map (fun z => (Sum.inr z : Key))).zip vs)) rt_m1 trivial fun g => .m hm (DictAt.k upd_same (by rw [List.length_map]; exact hl) (RpAll.stp R2.ml g _ _ r2))
  exact k xs ρ2 p M2 _ (R.up R3) (by rw [hl, r2.length]) q
theorem d_dispIx {keys : List (Option Expr)} {vals : List Expr} {zs : List Str} {ts : List TE} {ws : List WE} {pd : Pos} (hu : X.A.units + 1 < cLine) (h : PVd Z X pd keys vals zs ts ws) (hb : PEd Z X b tb wb) (hn : zs.Nodup := by decide +kernel) (hz : zs.length ≤ 15 := by decide) (h0 : keys ≠ [] := by exact fun z => nomatch z) (hc : keys.length ≤ 15 := by decide) (hs : NoSl b := by exact fun _ _ => rfl) :
    PEd Z X (.Subscript (.Dict keys vals pd) b pos) (tDGet (tDisp (trsOf zs ts)) tb) (wDisp zs ws wb) := by
  refine ⟨pe_dget hu (pe_disp h.pps h.len.1 h.len.2.1 h0 hc) hb.p hs, fun F G M σ H ρ R P hw Q k => ?_⟩
  refine disp_start h hn hz R hw fun xs ρ1 p M1 H1 R1 hl hw1 => ?_
  refine hb.i F _ _ σ H1 ρ1 R1 _ hw1 _ fun y ρ2 v M2 H2 R2 r2 ⟨z, d, e1, e2, q⟩ => ?_
  subst e1
  cases r2
  obtain ⟨fp, rt, _⟩ := R2.r.top
  cases rt with
  | m _ da =>
    obtain ⟨vs, q0, r1, _⟩ := disp_at hl rfl da
    have hv := val_zip (z := z) (zs := zs) r1
    rw [e2] at hv
    obtain ⟨u, q1, q2⟩ := hv
    refine ⟨p, u, rfl, ?_, k d ρ2 u M2 H2 (R.to R2.r.pop) q2 q⟩
    rw [← q1]
    exact DGet.k (k := Sum.inr z) q0
theorem d_dispGet {keys : List (Option Expr)} {vals : List Expr} {zs : List Str} {ts : List TE} {ws : List WE} {pd ap cp : Pos} (hu : X.A.units + 1 < cLine) (h : PVd Z X pd keys vals zs ts ws) (hb : PEd Z X b tb wb) (hd : PEd Z X c tc wc) (m : M2 X (.Dict keys vals pd) "get" ap b c cp := by exact ⟨rfl, rfl, rfl, rfl⟩) (hn : zs.Nodup := by decide +kernel) (hz : zs.length ≤ 15 := by decide) (h0 : keys ≠ [] := by exact fun z => nomatch z) (hc : keys.length ≤ 15 := by decide) :
    PEd Z X (.Call (.Attribute (.Dict keys vals pd) "get" ap) [b, c] [] cp) (tDGet2 (tDisp (trsOf zs ts)) tb tc) (wDispG zs ws wb wc) := by
  refine ⟨pe_dget2 hu (pe_disp h.pps h.len.1 h.len.2.1 h0 hc) hb.p hd.p m, fun F G M σ H ρ R P hw Q k => ?_⟩
  refine disp_start h hn hz R hw fun xs ρ1 p M1 H1 R1 hl hw1 => ?_
  obtain ⟨fp, rt, _⟩ := R1.r.top
  have hp : ∃ kvs, H1 p = some (.dK kvs) := by
    cases rt with
    | m _ da =>
      obtain ⟨vs, q0, _⟩ := disp_at hl rfl da
      exact ⟨_, q0⟩
  obtain ⟨kvs, hp⟩ := hp
  refine ⟨p, rfl, .inl ⟨_, .inl hp⟩, ?_⟩
  refine hb.i F _ _ σ H1 ρ1 R1 _ hw1 _ fun y ρ2 v M2 H2 R2 r2 hw2 => ?_
  refine hd.i F _ _ σ H2 ρ2 (R2.push r2) _ hw2 _ fun d ρ3 u M3 H3 R3 r3 ⟨z, e1, q⟩ => ?_
  subst e1
  cases r2
  obtain ⟨fp3, rt3, _⟩ := R3.r.pop.top
  cases rt3 with
  | m _ da =>
    obtain ⟨vs, q0, r1, hl3⟩ := disp_at hl rfl da
    have hv := val_zip (z := z) (zs := zs) r1
    refine ⟨valV ((zs.map (fun z => (Sum.inr z : Key))).zip vs) (Sum.inr z), DGet.k (k := Sum.inr z) q0, ?_⟩
    cases e2 : lookD zs xs z with
    | some y =>
      rw [e2] at hv q
      obtain ⟨w', q1, q2⟩ := hv
      rw [q1]
      exact k y ρ3 w' M3 H3 (R.to R3.r.pop.pop) q2 q
    | none =>
      rw [e2] at hv q
      rw [hv hl3]
      exact k d ρ3 u M3 H3 (R.to R3.r.pop.pop) r3 q
end
end Dat
set_option Elab.async false
set_option linter.all false
set_option maxRecDepth 100000
set_option maxHeartbeats 4000000
namespace Dat
open PySem PySem.Spec PyProof.Rows L2
section
variable {Z : XC} {K : KW} {X : Cx} {a b c e o : Expr} {ta tb tc te tl to : TE} {wa wb wc we wo : WE} {pos apos : Pos}
/-! ### a text's method of one argument -/
def wM1 (f : PyData → PyData → Option PyData) (wo we : WE) : WE := fun ρ P => wo ρ fun x ρ1 => (∃ s, x = .str s) ∧ we ρ1 fun y ρ2 => ∃ z, f x y = some z ∧ P z ρ2
def LiftM (K : KW) (r : V → List V → Hp → VK → Prop) (f : PyData → PyData → Option PyData) : Prop := ∀ (M : MS) (H : Hp) x y z v u, (∀ a, M a → Mut (H a)) → f x y = some z → Rp K M H v x → Rp K M H u y → ∀ Q : VK, (∀ v' H', Same H H' → Rp K M H' v' z → Q v' H') → r v [u] H Q
theorem imp_m1 {r : V → List V → Hp → VK → Prop} {f : PyData → PyData → Option PyData} (l : LiftM K r f) (ho : ImpE Z K to wo) (he : ImpE Z K te we) : ImpE Z K (tM1 r to te) (wM1 f wo we) := by
  intro F G M σ H ρ R P hw Q k
  refine ho F G M σ H ρ R _ hw _ fun x ρ1 v M1 H1 R1 r1 ⟨⟨s, es⟩, hw⟩ => ?_
  subst es
  cases r1
  refine ⟨⟨s, rfl⟩, he F G M1 σ H1 ρ1 R1 _ hw _ fun y ρ2 u M2 H2 R2 r2 ⟨z, ez, q⟩ => ?_⟩
  refine l M2 H2 _ y z _ u R2.ml ez (.str s) r2 Q fun v' H' sm r' => k z ρ2 v' M2 H' (R2.same sm) r' q
def strsL : List PyData → Option (List Str)
  | [] => some []
  | .str s :: r => (strsL r).map (s :: ·)
  | _ => none
theorem strsL_rp {M : MS} {H : Hp} : ∀ {ds : List PyData} {vs : List V} {ys : List Str}, RpAll K M H vs ds → strsL ds = some ys → vs = ys.map V.str
  | [], _, _, .nil, e => by cases e; rfl
  | x :: ds, _, ys, .cons r t, e => by
    cases r with
    | str s =>
      simp only [strsL] at e
      obtain ⟨zs, e1, e2⟩ := Option.map_eq_some_iff.mp e
      subst e2
      rw [strsL_rp t e1]
      rfl
    | _ => simp [strsL] at e
def joinD (a : Str) (ds : List PyData) : Option PyData := match strsL ds with
  | some ys => if (ys.map (·.length)).sum + ys.length * a.length ≤ 16777216 then some (.str (Txt.join a ys)) else none
  | none => none
def fJoin : PyData → PyData → Option PyData
  | .str a, .list ds => joinD a ds
  | .str a, .tuple ds => joinD a ds
  | _, _ => none
theorem joinD_some {a : Str} {ds : List PyData} {z : PyData} (h : joinD a ds = some z) : ∃ ys, strsL ds = some ys ∧ (ys.map (·.length)).sum + ys.length * a.length ≤ 16777216 ∧ z = .str (Txt.join a ys) := by
  unfold joinD at h
  split at h
  · rename_i ys e
    split at h
    · rename_i hl
      exact ⟨ys, e, hl, (Option.some.inj h).symm⟩
    · cases h
  · cases h
theorem l_join : LiftM K (fun x xs H Q => ∃ a p, ∃ ys : List Str, x = .str a ∧ xs = [.ref p] ∧ (SqL K H p (ys.map V.str) ∨ SqT K H p (ys.map V.str)) ∧ (ys.map (·.length)).sum + ys.length * a.length ≤ 16777216 ∧ Q (.str (Txt.join a ys)) H) fJoin := by
  intro M H x y z v u ml e rx ry Q k
  unfold fJoin at e
  split at e
  · obtain ⟨ys, e1, hl, rfl⟩ := joinD_some e
    cases rx
    cases ry with
    | lst n l al =>
      have ev := strsL_rp al e1
      subst ev
      exact ⟨_, _, ys, rfl, rfl, .inl (SqL.of l), hl, k _ H (Same.refl H) (.str _)⟩
  · obtain ⟨ys, e1, hl, rfl⟩ := joinD_some e
    cases rx
    cases ry with
    | tup l al =>
      have ev := strsL_rp al e1
      subst ev
      exact ⟨_, _, ys, rfl, rfl, .inr l, hl, k _ H (Same.refl H) (.str _)⟩
  · cases e
theorem d_join (ho : PEd Z X o to wo) (he : PEd Z X e te we) (hs : starEach [e] X.env = [(false, eval e X.env)] := by rfl) (hbase : attributeBase o "join" X.env (eval o X.env) = eval o X.env := by rfl) (hline : (apos.endLine == pos.line) = true := by rfl) :
    PEd Z X (.Call (.Attribute o "join" apos) [e] [] pos) (tM1 (fun x xs H Q => ∃ a p, ∃ ys : List Str, x = .str a ∧ xs = [.ref p] ∧ (SqL X.K H p (ys.map V.str) ∨ SqT X.K H p (ys.map V.str)) ∧ (ys.map (·.length)).sum + ys.length * a.length ≤ 16777216 ∧ Q (.str (Txt.join a ys)) H) to te) (wM1 fJoin wo we) :=
  ⟨pe_join ho.p he.p hs hbase hline, imp_m1 l_join ho.i he.i⟩
end
end Dat
set_option Elab.async false
set_option linter.all false
set_option maxRecDepth 100000
set_option maxHeartbeats 4000000
namespace Dat
open PySem PySem.Spec PyProof.Rows L2

/-! ### promises of defs -/
/-- the arguments: data, trees lent to be changed or looked at; all addresses, those that may change -/
inductive ArgR (K : KW) (M : MS) (H : Hp) : Nat → List V → List Sl → List Addr → List (Nat × List Addr) → Prop
  | nil {i : Nat} : ArgR K M H i [] [] [] []
  | d {i : Nat} {v : V} {x : PyData} {vs : List V} {as : List Sl} {A : List Addr} {B : List (Nat × List Addr)} : Rp K M H v x → ArgR K M H (i + 1) vs as A B → ArgR K M H i (v :: vs) (.d x :: as) A B
  | len {i : Nat} {v : V} {t : T} {fp : List Addr} {vs : List V} {as : List Sl} {A : List Addr} {B : List (Nat × List Addr)} : RT K M H v t fp → ArgR K M H (i + 1) vs as A B → ArgR K M H i (v :: vs) (.o (.len i) t :: as) (fp ++ A) ((i, fp) :: B)
  | ro {i : Nat} {v : V} {t : T} {fp : List Addr} {vs : List V} {as : List Sl} {A : List Addr} {B : List (Nat × List Addr)} : RT K M H v t fp → ArgR K M H (i + 1) vs as A B → ArgR K M H i (v :: vs) (.o .ro t :: as) (fp ++ A) B
/-- what was lent comes back -/
inductive OutR (K : KW) (M : MS) (H H0 : Hp) : List V → List Sl → List (Nat × List Addr) → List T → List Addr → Prop
  | nil : OutR K M H H0 [] [] [] [] []
  | d {v : V} {x : PyData} {vs : List V} {as : List Sl} {B : List (Nat × List Addr)} {ts : List T} {A : List Addr} : OutR K M H H0 vs as B ts A → OutR K M H H0 (v :: vs) (.d x :: as) B ts A
  | len {i : Nat} {v : V} {t t' : T} {fp fq : List Addr} {vs : List V} {as : List Sl} {B : List (Nat × List Addr)} {ts : List T} {A : List Addr} : RT K M H v t' fq → (∀ a ∈ fq, a ∈ fp ∨ H0 a = none) → OutR K M H H0 vs as B ts A → OutR K M H H0 (v :: vs) (.o (.len i) t :: as) ((i, fp) :: B) (t' :: ts) (fq ++ A)
  | ro {v : V} {t : T} {vs : List V} {as : List Sl} {B : List (Nat × List Addr)} {ts : List T} {A : List Addr} : OutR K M H H0 vs as B ts A → OutR K M H H0 (v :: vs) (.o .ro t :: as) B ts A
/-- a def over data: the arguments, what is wished of its result and of what was lent, and of its exceptions -/
abbrev WFn := List Sl → (T → List T → Prop) → (Exc → List T → Prop) → Prop
def spG (K : KW) (mg : Str → Option Value) (wf : WFn) : Sp := fun vs H Q E => ∃ (M : MS) (as : List Sl) (A : List Addr) (B : List (Nat × List Addr)) (P : T → List T → Prop) (PX : Exc → List T → Prop), (∀ a, M a → Mut (H a)) ∧ ArgR K M H 0 vs as A B ∧ A.Nodup ∧ wf as P PX ∧
  (∀ tr ts v H' fr fl, (∀ a o, (∀ p ∈ B, a ∉ p.2) → H a = some o → H' a = some o) → (∀ a, (M a ∨ a ∈ fr ++ fl) → Mut (H' a)) → OutR K (fun a => M a ∨ a ∈ fr ++ fl) H' H vs as B ts fl → RT K (fun a => M a ∨ a ∈ fr ++ fl) H' v tr fr → (fr ++ fl).Nodup → (∀ a ∈ fr, H a = none) → P tr ts → Q v H') ∧
  (∀ ex ts cls d H' fl, (∀ a o, (∀ p ∈ B, a ∉ p.2) → H a = some o → H' a = some o) → (∀ a, (M a ∨ a ∈ fl) → Mut (H' a)) → OutR K (fun a => M a ∨ a ∈ fl) H' H vs as B ts fl → fl.Nodup → mg ex.c = some cls → ExcD K (fun a => M a ∨ a ∈ fl) H' d ex.fs → PX ex ts → E cls d H')
def startS (n : Nat) (as : List Sl) : DE := as.map some ++ List.replicate (n - as.length) none
/-- the trees that were lent, as they stand -/
def lents : Nat → List Sl → DE → List T → Prop
  | _, [], _, ts => ts = []
  | i, .o (.len _) _ :: as, ρ, ts => ∃ t ts', ts = t :: ts' ∧ ρ[i]? = some (some (.o (.len i) t)) ∧ lents (i + 1) as ρ ts'
  | i, .o .loc _ :: as, ρ, ts => lents (i + 1) as ρ ts
  | i, .o .ro _ :: as, ρ, ts => lents (i + 1) as ρ ts
  | i, .d _ :: as, ρ, ts => lents (i + 1) as ρ ts
section
variable {K : KW} {F : Frm} {M : MS} {H : Hp}
theorem ArgR.length {i : Nat} {vs : List V} {as : List Sl} {A : List Addr} {B : List (Nat × List Addr)} (h : ArgR K M H i vs as A B) : vs.length = as.length := by
  induction h with
  | nil => rfl
  | d _ _ ih => rw [List.length_cons, List.length_cons, ih]
  | len _ _ ih => rw [List.length_cons, List.length_cons, ih]
  | ro _ _ ih => rw [List.length_cons, List.length_cons, ih]
theorem ArgR.memB {i : Nat} {vs : List V} {as : List Sl} {A : List Addr} {B : List (Nat × List Addr)} (h : ArgR K M H i vs as A B) : ∀ p ∈ B, ∀ a ∈ p.2, M a := by
  induction h with
  | nil => intro p hp; cases hp
  | d _ _ ih => exact ih
  | len r _ ih =>
    intro p hp a ha
    rcases List.mem_cons.mp hp with rfl | hp
    · exact r.mem a ha
    · exact ih p hp a ha
  | ro _ _ ih => exact ih
theorem ArgR.rps {i : Nat} {vs : List V} {as : List Sl} {A : List Addr} {B : List (Nat × List Addr)} (h : ArgR K M H i vs as A B) (n : Nat) (ha : ∀ j v, vs[j]? = some v → F.args (i + j) = some v) (hB : ∀ p ∈ B, ∀ a ∈ p.2, F.B p.1 a) : RpS K F M H (vs.map some ++ List.replicate n none) (as.map some ++ List.replicate n none) A := by
  induction h with
  | nil =>
    induction n with
    | zero => exact .nil
    | succ n ih => exact .skip ih
  | d r _ ih => exact .cons (.d r) (ih (fun j v e => by have := ha (j + 1) v (by simpa using e); rwa [← Nat.add_assoc, Nat.add_right_comm] at this) hB)
  | @len i v t fp vs as A B r _ ih =>
    refine .cons (.o r ⟨ha 0 v rfl, fun a z => .inl (hB _ List.mem_cons_self a z)⟩) (ih (fun j v e => by have := ha (j + 1) v (by simpa using e); rwa [← Nat.add_assoc, Nat.add_right_comm] at this) fun p z => hB p (List.mem_cons_of_mem _ z))
  | ro r _ ih => exact .cons (.o r trivial) (ih (fun j v e => by have := ha (j + 1) v (by simpa using e); rwa [← Nat.add_assoc, Nat.add_right_comm] at this) hB)
abbrev frmG (M : MS) (H : Hp) (vs : List V) (B : List (Nat × List Addr)) : Frm := ⟨M, H, fun i a => ∃ fp, (i, fp) ∈ B ∧ a ∈ fp, fun i => vs[i]?⟩
theorem rep_start {vs : List V} {as : List Sl} {A : List Addr} {B : List (Nat × List Addr)} {N : List Str} (ml : ∀ a, M a → Mut (H a)) (h : ArgR K M H 0 vs as A B) (nd : A.Nodup) : RepS K (frmG M H vs B) [] M H (L2.start N vs) (startS N.length as) := by
  refine ⟨⟨fun _ q => q, fun a q z => ?_, fun i a q => h.memB _ q.choose_spec.1 a q.choose_spec.2, ml, fun _ q => .inl q, fun _ _ q _ => q⟩, A, [], ?_, .nil, fun a z => (by cases z), by rw [List.append_nil]; exact nd⟩
  · have := ml a q
    have z' : H a = none := z
    rw [z'] at this
    exact this
  · unfold L2.start startS
    rw [h.length]
    exact h.rps (F := frmG M H vs B) _ (fun j v e => by show vs[0 + j]? = some v; rw [Nat.zero_add]; exact e) fun p hp a z => ⟨p.2, hp, z⟩
/-- the trees that were lent, out of the slots -/
theorem lents_out {vs0 : List V} {M' : MS} {H' : Hp} {σ : L2.St} (hF : ∀ i, F.args i = vs0[i]?) : ∀ {i : Nat} {vs : List V} {as : List Sl} {A : List Addr} {B : List (Nat × List Addr)} {ρ : DE} {ts : List T} {C : List Addr}, ArgR K M H i vs as A B → (∀ j a, i ≤ j → F.B j a → ∃ fp, (j, fp) ∈ B ∧ a ∈ fp) → (∀ j, vs[j]? = vs0[i + j]?) → RpS K F M' H' σ ρ C → lents i as ρ ts →
    ∃ fl rest, OutR K M' H' F.H0 vs as B ts fl ∧ C.Perm (fl ++ rest) := by
  intro i vs as A B ρ ts C h
  induction h generalizing ρ ts C with
  | nil =>
    intro _ _ _ hl
    have hl : ts = [] := hl
    subst hl
    exact ⟨[], C, .nil, .refl _⟩
  | d _ _ ih =>
    intro hB hv r hl
    obtain ⟨fl, rest, h1, h3⟩ := ih (fun j a hj => hB j a (by omega)) (fun j => by have := hv (j + 1); rw [List.getElem?_cons_succ] at this; rw [this, Nat.add_right_comm]; rfl) r hl
    exact ⟨fl, rest, .d h1, h3⟩
  | ro _ _ ih =>
    intro hB hv r hl
    obtain ⟨fl, rest, h1, h3⟩ := ih (fun j a hj => hB j a (by omega)) (fun j => by have := hv (j + 1); rw [List.getElem?_cons_succ] at this; rw [this, Nat.add_right_comm]; rfl) r hl
    exact ⟨fl, rest, .ro h1, h3⟩
  | @len i v t fp vs as A B _ hA ih =>
    intro hB hv r hl
    obtain ⟨t', ts', rfl, e, hl⟩ := hl
    obtain ⟨u, fq, rest, q1, q2, q3, q4⟩ := r.focus e
    have hl' : lents (i + 1) as (ρ.set i none) ts' := by
      have key : ∀ (as : List Sl) (j : Nat) (ts : List T), i < j → lents j as ρ ts → lents j as (ρ.set i none) ts := by
        intro as
        induction as with
        | nil => intro j ts _ h; exact h
        | cons a as ih =>
          intro j ts hj h
          cases a with
          | d x => exact ih (j + 1) ts (by omega) h
          | o m t =>
            cases m with
            | loc => exact ih (j + 1) ts (by omega) h
            | ro => exact ih (j + 1) ts (by omega) h
            | len k =>
              obtain ⟨t1, ts1, e1, e2, e3⟩ := h
              exact ⟨t1, ts1, e1, by rw [List.getElem?_set_ne (by omega)]; exact e2, ih (j + 1) ts1 (by omega) e3⟩
      exact key as (i + 1) ts' (by omega) hl
    have big : ∀ {i : Nat} {vs : List V} {as : List Sl} {A : List Addr} {B : List (Nat × List Addr)}, ArgR K M H i vs as A B → ∀ p ∈ B, i ≤ p.1 := by
      intro i vs as A B h
      induction h with
      | nil => intro p hp; cases hp
      | d _ _ ih => intro p hp; have := ih p hp; omega
      | ro _ _ ih => intro p hp; have := ih p hp; omega
      | len _ _ ih =>
        intro p hp
        rcases List.mem_cons.mp hp with rfl | hp
        · exact Nat.le_refl _
        · have := ih p hp; omega
    obtain ⟨fl, rest2, h1, h3⟩ := ih (fun j a hj z => by
      obtain ⟨fq, z1, z2⟩ := hB j a (by omega) z
      rcases List.mem_cons.mp z1 with z1 | z1
      · cases z1
        omega
      · exact ⟨fq, z1, z2⟩) (fun j => by have := hv (j + 1); rw [List.getElem?_cons_succ] at this; rw [this, Nat.add_right_comm]; rfl) q3 hl'
    cases q2 with
    | o rt mo =>
      have ev : u = v := by
        have z1 := mo.1
        rw [hF] at z1
        have z2 := hv 0
        rw [List.getElem?_cons_zero, Nat.add_zero] at z2
        rw [← z2] at z1
        exact (Option.some.inj z1).symm
      subst ev
      refine ⟨fq ++ fl, rest2, .len rt (fun a z => (mo.2 a z).imp (fun y => ?_) id) h1, ?_⟩
      · obtain ⟨fz, y1, y2⟩ := hB i a (Nat.le_refl _) y
        rcases List.mem_cons.mp y1 with y1 | y1
        · cases y1
          exact y2
        · have := big hA _ y1
          have : i + 1 ≤ i := this
          omega
      · rw [List.append_assoc]
        exact q4.trans (List.Perm.append_left fq h3)
theorem OutR.less {M M' : MS} {H H0 : Hp} (s : ∀ a, M' a → M a) {vs : List V} {as : List Sl} {B : List (Nat × List Addr)} {ts : List T} {A : List Addr} (h : OutR K M H H0 vs as B ts A) (k : ∀ a ∈ A, M' a) : OutR K M' H H0 vs as B ts A := by
  induction h with
  | nil => exact .nil
  | d _ ih => exact .d (ih k)
  | len r q _ ih => exact .len (r.less s fun a z => k a (List.mem_append_left _ z)) q (ih fun a z => k a (List.mem_append_right _ z))
  | ro _ ih => exact .ro (ih k)
theorem OutR.mem {H0 : Hp} {vs : List V} {as : List Sl} {B : List (Nat × List Addr)} {ts : List T} {A : List Addr} (h : OutR K M H H0 vs as B ts A) : ∀ a ∈ A, M a := by
  induction h with
  | nil => intro a z; cases z
  | d _ ih => exact ih
  | len r _ _ ih =>
    intro a z
    rcases List.mem_append.mp z with z | z
    · exact r.mem a z
    · exact ih a z
  | ro _ ih => exact ih
/-- the end of a def, with a result -/
theorem ret_ok {vs : List V} {as : List Sl} {A : List Addr} {B : List (Nat × List Addr)} {M' : MS} {H' : Hp} {σ' : L2.St} {ρ' : DE} {v : V} {tr : T} {ts : List T} {P : T → List T → Prop} {Q : VK} (ha : ArgR K M H 0 vs as A B)
    (q : ∀ tr ts v H' fr fl, (∀ a o, (∀ p ∈ B, a ∉ p.2) → H a = some o → H' a = some o) → (∀ a, (M a ∨ a ∈ fr ++ fl) → Mut (H' a)) → OutR K (fun a => M a ∨ a ∈ fr ++ fl) H' H vs as B ts fl → RT K (fun a => M a ∨ a ∈ fr ++ fl) H' v tr fr → (fr ++ fl).Nodup → (∀ a ∈ fr, H a = none) → P tr ts → Q v H')
    (R : RepS K (frmG M H vs B) [(v, tr)] M' H' σ' ρ') (hl : lents 0 as ρ' ts) (hp : P tr ts) : Q v H' := by
  obtain ⟨b, C, D, h1, h2, h3, h4⟩ := R
  cases h2 with
  | @cons _ _ _ _ fr fq r rs =>
    cases rs
    obtain ⟨fl, rest, o1, o3⟩ := lents_out (F := frmG M H vs B) (vs0 := vs) (fun i => rfl) ha (fun j a _ z => z) (fun j => by rw [Nat.zero_add]) h1 hl
    have nd : (fl ++ (rest ++ (fr ++ []))).Nodup := by
      rw [← List.append_assoc]
      exact (List.Perm.append_right _ o3).nodup_iff.mp h4
    rw [List.append_nil] at nd
    have sub : ∀ a, (M a ∨ a ∈ fr ++ fl) → M' a := fun a z => z.elim (b.sub a) fun z => (List.mem_append.mp z).elim (r.mem a) (o1.mem a)
    have nd' : (fr ++ fl).Nodup := by
      have s : (fl ++ fr).Nodup := nd.sublist (List.Sublist.append (List.Sublist.refl fl) (List.sublist_append_right rest fr))
      exact (List.perm_append_comm).nodup_iff.mp s
    exact q tr ts v H' fr fl (fun a o n e => b.fr a o e fun i z => n _ z.choose_spec.1 z.choose_spec.2) (fun a z => b.ml a (sub a z)) (o1.less sub fun a z => .inr (List.mem_append_right _ z)) (r.less sub fun a z => .inr (List.mem_append_left _ z)) nd' (fun a z => h3 a (List.mem_append_left _ z)) hp
/-- .. with an exception -/
theorem raise_ok {vs : List V} {as : List Sl} {A : List Addr} {B : List (Nat × List Addr)} {M' : MS} {H' : Hp} {σ' : L2.St} {ρ' : DE} {ex : Exc} {cls : Value} {d : Option Addr} {ts : List T} {PX : Exc → List T → Prop} {E : XK} {mg : Str → Option Value} (ha : ArgR K M H 0 vs as A B)
    (q : ∀ ex ts cls d H' fl, (∀ a o, (∀ p ∈ B, a ∉ p.2) → H a = some o → H' a = some o) → (∀ a, (M a ∨ a ∈ fl) → Mut (H' a)) → OutR K (fun a => M a ∨ a ∈ fl) H' H vs as B ts fl → fl.Nodup → mg ex.c = some cls → ExcD K (fun a => M a ∨ a ∈ fl) H' d ex.fs → PX ex ts → E cls d H')
    (R : RepS K (frmG M H vs B) [] M' H' σ' ρ') (hm : mg ex.c = some cls) (hd : ExcD K M' H' d ex.fs) (hl : lents 0 as ρ' ts) (hp : PX ex ts) : E cls d H' := by
  obtain ⟨b, C, D, h1, h2, h3, h4⟩ := R
  cases h2
  rw [List.append_nil] at h4
  obtain ⟨fl, rest, o1, o3⟩ := lents_out (F := frmG M H vs B) (vs0 := vs) (fun i => rfl) ha (fun j a _ z => z) (fun j => by rw [Nat.zero_add]) h1 hl
  have sub : ∀ a, (M a ∨ a ∈ fl) → M' a := fun a z => z.elim (b.sub a) fun z => o1.mem a z
  refine q ex ts cls d H' fl (fun a o n e => b.fr a o e fun i z => n _ z.choose_spec.1 z.choose_spec.2) (fun a z => b.ml a (sub a z)) (o1.less sub fun a z => .inr z) ((o3.nodup_iff.mp h4).sublist (List.sublist_append_left _ _)) hm ?_ hp
  rcases hd with hd | ⟨a, ws, z1, z2, z3⟩
  · exact .inl hd
  · exact .inr ⟨a, ws, z1, z2, RpAll.less sub _ _ z3⟩
end

/-! ### defs, called where no repr is under way -/
structure FnG (P : Program) (w : World) (K : PySem.W.Frag) (mg : Str → Option Value) (base : Heap) (k : Nat) (f : Addr) (fd : FuncData) (ps : List Str) (sp : Sp) : Prop where
  len : ∀ vs H Q E, sp vs H Q E → vs.length = ps.length
  run : ∀ (A : Around) (outer : List Env) (s : Shared) (H : Hp) (args : Args) (us : List Value) (vs : List V) (Q : VK) (E : XK), A.guards = some [] → Room k A → Env0 P w K mg base A outer s H → BindsTo s fd args (ps.zip us) → Vals vs us → sp vs H Q E →
    codeAny (model P w) A (.call (.ref f) args) (CR (L2N.CX P w) outer P w H s Q E) s
theorem FnG.mono {P : Program} {w : World} {K : PySem.W.Frag} {mg : Str → Option Value} {base : Heap} {j k : Nat} {f : Addr} {fd : FuncData} {ps : List Str} {sp : Sp} (F : FnG P w K mg base j f fd ps sp) (h : j ≤ k) : FnG P w K mg base k f fd ps sp :=
  ⟨F.len, fun A outer s H args us vs Q E hg hr => F.run A outer s H args us vs Q E hg (hr.mono h)⟩
section
variable {P : Program} {w : World} {K : PySem.W.Frag} {mg : Str → Option Value} {base : Heap} {x qual : Str} {params : Arguments} {body : List Stmt} {scope : Scope} {dvs : List V} {kws : List (Str × V)} {f : Addr} {fd : FuncData} {N ps : List Str} {k : Nat} {sp : Sp}
theorem fnG_gen {CX' : CXT} (CXE : ∀ outer H s E e s', CX' outer H s E e s' → L2N.CX P w outer H s E e s') (nx : (E : XK) → XK) (hnx : ∀ outer H s E e s', CX' outer H s (nx E) e s' → L2N.CX P w outer H s E e s') (F : FunD K x qual params body scope dvs kws f fd) (S : FnScope N ps scope) (len : ∀ vs H Q E, sp vs H Q E → vs.length = ps.length)
    (hbody : ∀ (cdv : Value) (A : Around) (outer : List Env) (s : Shared) (H : Hp) (vs : List V) (Q : VK) (E : XK), A.guards = some [] → Room k (A.deeper (envOfC qual scope s.heap.objs.size f cdv)) → sp vs H Q E →
      ∃ t, PSs (cxOf CX' P w K mg base N qual scope f cdv A outer s H (nx E)) body t ∧ t { nx := fun _ H' => Q .non H', rt := Q } (L2.start N vs) H) : FnG P w K mg base (k + 1) f fd ps sp := by
  obtain ⟨oc, od, dV, kV, doc, pm, an, cdv, ct, osl, rfl, lk, hcd, _, _⟩ := F.ex
  refine ⟨len, fun A outer s H args us vs Q E hg hr e0 hb r hsp => ?_⟩
  have kin : K.In s.heap := e0.mod.kin.keeps fun b o e => (e0.bs b o e).1
  refine codeAny_call_function hr.depth (kin _ _ lk) rfl S.co S.gen rfl (PySem.W.codeRec_of kin hcd) (hb _ _ _ _ ?_)
  refine wpAny_newFunctionEnv_cells S.kind (fun y hy => ?_) fun env he s1 x1 => ?_
  · rcases S.par y.1 (List.of_mem_zip hy).1 with q | q
    · exact .inl q
    · exact .inr ⟨q, PySem.W.cellsFrom_some _ _ _ (.inl q)⟩
  subst he
  refine ⟨(e0.mod.nolimit.keeps fun b o e => (e0.bs b o e).1).keeps x1.toInCall.keep, codeAny_func ?_⟩
  obtain ⟨t, ht, hq⟩ := hbody cdv A outer s H vs Q E hg (hr.deeper _) hsp
  have I := inv_start (CX := CX') (P := P) (w := w) (N := N) (E := nx E) S hr.hd e0 (len _ _ _ _ hsp) r x1
  refine wpAny_mono (ht.run [] s1 (L2.start N vs) H _ I hq) (fun fl s' hs => ?_) fun e s' hs => ?_
  · cases fl with
    | ret u =>
      obtain ⟨v, σ', H', J, rv, q⟩ := hs
      exact ⟨v, H', J.os, J.bare, J.base, J.hok, rv, q⟩
    | next =>
      obtain ⟨σ', H', J, q⟩ := hs
      exact ⟨V.non, H', J.os, J.bare, J.base, J.hok, rfl, q⟩
    | brk =>
      obtain ⟨_, _, _, q⟩ := hs
      exact False.elim q
    | cont =>
      obtain ⟨_, _, _, q⟩ := hs
      exact False.elim q
  · exact wpAny_mono hs (fun _ s'' h => hnx _ _ _ _ _ _ h) fun _ _ h => hnx _ _ _ _ _ _ h
end
end Dat
set_option Elab.async false
set_option linter.all false
set_option maxRecDepth 100000
set_option maxHeartbeats 4000000
namespace Dat
open PySem PySem.Spec PyProof.Rows L2
/-! ### arguments: data, one's own trees (by their slots) -/
inductive AK where
  | d (x : PyData)
  | own (j : Nat)
  | ro (j : Nat)
inductive AkR (K : KW) (M : MS) (H : Hp) (σ : L2.St) : List V → List AK → Prop
  | nil : AkR K M H σ [] []
  | d {v : V} {x : PyData} {vs : List V} {ks : List AK} : Rp K M H v x → AkR K M H σ vs ks → AkR K M H σ (v :: vs) (.d x :: ks)
  | own {v : V} {j : Nat} {vs : List V} {ks : List AK} : σ[j]? = some (some v) → AkR K M H σ vs ks → AkR K M H σ (v :: vs) (.own j :: ks)
  | ro {v : V} {j : Nat} {vs : List V} {ks : List AK} : σ[j]? = some (some v) → AkR K M H σ vs ks → AkR K M H σ (v :: vs) (.ro j :: ks)
/-- the arguments as the callee sees them -/
def argsOf : Nat → List AK → DE → Option (List Sl)
  | _, [], _ => some []
  | i, .d x :: ks, ρ => (argsOf (i + 1) ks ρ).map (.d x :: ·)
  | i, .own j :: ks, ρ => match ρ[j]? with
    | some (some (.o m t)) => if m.may = true then (argsOf (i + 1) ks (ρ.set j none)).map (.o (.len i) t :: ·) else none
    | _ => none
  | i, .ro j :: ks, ρ => match ρ[j]? with
    | some (some (.o m t)) => (argsOf (i + 1) ks (ρ.set j none)).map (.o .ro t :: ·)
    | _ => none
/-- what was lent is put back -/
def putBack : List AK → DE → List T → DE
  | [], ρ, _ => ρ
  | .d _ :: ks, ρ, ts => putBack ks ρ ts
  | .ro j :: ks, ρ, ts => (putBack ks (ρ.set j none) ts).set j (ρ[j]?.getD none)
  | .own j :: ks, ρ, t :: ts => match ρ[j]? with
    | some (some (.o m _)) => (putBack ks (ρ.set j none) ts).set j (some (.o m t))
    | _ => ρ
  | .own _ :: _, ρ, [] => ρ
section
variable {Z : XC} {K : KW} {F : Frm} {G : List (V × T)} {M M' : MS} {H H' : Hp} {σ : L2.St} {ρ : DE}
theorem ext_set {α : Type} {l : List α} {k : Nat} {x : α} (h : l[k]? = some x) : l.set k x = l := by
  have hk := (List.getElem?_eq_some_iff.mp h).1
  apply List.ext_getElem?
  intro i
  by_cases hi : i = k
  · subst hi
    rw [List.getElem?_set_self hk, h]
  · rw [List.getElem?_set_ne (Ne.symm hi)]
theorem argsOf_own {i j : Nat} {ks : List AK} {as : List Sl} (h : argsOf i (.own j :: ks) ρ = some as) : ∃ m t as', ρ[j]? = some (some (.o m t)) ∧ m.may = true ∧ argsOf (i + 1) ks (ρ.set j none) = some as' ∧ as = .o (.len i) t :: as' := by
  unfold argsOf at h
  split at h
  · rename_i m t e
    split at h
    · obtain ⟨as', h1, h2⟩ := Option.map_eq_some_iff.mp h
      exact ⟨m, t, as', e, by assumption, h1, h2.symm⟩
    · cases h
  · cases h
theorem argsOf_ro {i j : Nat} {ks : List AK} {as : List Sl} (h : argsOf i (.ro j :: ks) ρ = some as) : ∃ m t as', ρ[j]? = some (some (.o m t)) ∧ argsOf (i + 1) ks (ρ.set j none) = some as' ∧ as = .o .ro t :: as' := by
  unfold argsOf at h
  split at h
  · rename_i m t e
    obtain ⟨as', h1, h2⟩ := Option.map_eq_some_iff.mp h
    exact ⟨m, t, as', e, h1, h2.symm⟩
  · cases h
theorem putBack_none {j : Nat} : ∀ {ks : List AK} {i : Nat} {ρ : DE} {as : List Sl} {ts : List T}, argsOf i ks ρ = some as → ρ[j]? = some none → (putBack ks ρ ts)[j]? = some none
  | [], _, _, _, _, _, e => e
  | .d x :: ks, i, ρ, as, ts, h, e => by
    unfold argsOf at h
    obtain ⟨as', h1, h2⟩ := Option.map_eq_some_iff.mp h
    exact putBack_none (ks := ks) h1 e
  | .ro j2 :: ks, i, ρ, as, ts, h, e => by
    obtain ⟨m, t, as', e2, h1, _⟩ := argsOf_ro h
    have ne : j2 ≠ j := fun z => by subst z; rw [e2] at e; cases e
    unfold putBack
    rw [List.getElem?_set_ne ne]
    exact putBack_none h1 (by rw [List.getElem?_set_ne ne]; exact e)
  | .own j2 :: ks, i, ρ, as, [], h, e => e
  | .own j2 :: ks, i, ρ, as, t' :: ts, h, e => by
    obtain ⟨m, t, as', e2, _, h1, _⟩ := argsOf_own h
    have ne : j2 ≠ j := fun z => by subst z; rw [e2] at e; cases e
    unfold putBack
    rw [e2]
    show ((putBack ks (ρ.set j2 none) ts).set j2 _)[j]? = _
    rw [List.getElem?_set_ne ne]
    exact putBack_none h1 (by rw [List.getElem?_set_ne ne]; exact e)
theorem nd_parts {A B C : List Addr} (h : A.Nodup) (p : A.Perm (B ++ C)) : B.Nodup ∧ C.Nodup ∧ ∀ a ∈ B, a ∉ C := by
  have q := List.nodup_append.mp (p.nodup_iff.mp h)
  exact ⟨q.1, q.2.1, fun a h1 h2 => q.2.2 a h1 a h2 rfl⟩
/-- the arguments out of the slots, and a way back -/
theorem args_open {vs : List V} {ks : List AK} (hk : AkR K M H σ vs ks) : ∀ {i : Nat} {ρ : DE} {as : List Sl} {A : List Addr}, RpS K F M H σ ρ A → A.Nodup → argsOf i ks ρ = some as →
    ∃ C B, ArgR K M H i vs as C B ∧ C.Nodup ∧ (∀ p ∈ B, ∀ a ∈ p.2, (∃ i, F.B i a) ∨ F.H0 a = none) ∧ (∀ a ∈ C, a ∈ A) ∧ (∀ p ∈ B, ∀ a ∈ p.2, a ∈ C) ∧
      ∀ (M' : MS) (H' : Hp) (ts : List T) (fl : List Addr), (∀ a, M a → Mut (H a)) → Stp M H M' H' → (∀ a ∈ A, (∀ p ∈ B, a ∉ p.2) → M' a ∧ H' a = H a) → (∀ a, H a = none → F.H0 a = none) → OutR K M' H' H vs as B ts fl → ∃ A' R', RpS K F M' H' σ (putBack ks ρ ts) A' ∧ A'.Perm (fl ++ R') ∧ R'.Nodup ∧ ∀ a ∈ R', a ∈ A ∧ ∀ p ∈ B, a ∉ p.2 := by
  induction hk with
  | nil =>
    intro i ρ as A r nd h
    unfold argsOf at h
    cases h
    refine ⟨[], [], .nil, List.nodup_nil, fun a z => (by cases z), fun a z => (by cases z), fun a z => (by cases z), fun M' H' ts fl ml g k f0 o => ?_⟩
    cases o
    exact ⟨A, A, r.stp ml g fun a z => k a z (by simp), .refl _, nd, fun a z => ⟨z, by simp⟩⟩
  | d rx _ ih =>
    intro i ρ as A r nd h
    unfold argsOf at h
    obtain ⟨as', h1, h2⟩ := Option.map_eq_some_iff.mp h
    subst h2
    obtain ⟨C, B, q1, q2, q3, q4, q5, q6⟩ := ih r nd h1
    refine ⟨C, B, .d rx q1, q2, q3, q4, q5, fun M' H' ts fl ml g k f0 o => ?_⟩
    cases o with
    | d o => exact q6 M' H' ts fl ml g k f0 o
  | @own v j vs ks ev _ ih =>
    intro i ρ as A r nd h
    obtain ⟨m, t, as', e2, hm, h1, rfl⟩ := argsOf_own h
    obtain ⟨v', fp, rest, w1, w2, w3, w4⟩ := r.focus e2
    rw [ev] at w1
    cases w1
    obtain ⟨n1, n2, n3⟩ := nd_parts nd w4
    cases w2 with
    | o rt mo =>
      obtain ⟨C, B, q1, q2, q3, q4, q5, q6⟩ := ih w3 n2 h1
      have cap : ∀ a ∈ fp, (∃ i, F.B i a) ∨ F.H0 a = none := by
        cases m with
        | loc => exact fun a z => .inr (mo a z)
        | len i => exact fun a z => (mo.2 a z).imp (fun y => ⟨i, y⟩) id
        | ro => cases hm
      refine ⟨fp ++ C, (i, fp) :: B, .len rt q1, List.nodup_append.mpr ⟨n1, q2, fun a z b y e => n3 a z (q4 a (e ▸ y))⟩, fun p z a y => ?_, fun a z => w4.mem_iff.mpr ((List.mem_append.mp z).elim (fun z => List.mem_append_left _ z) fun z => List.mem_append_right _ (q4 a z)), fun p z a y => ?_, fun M' H' ts fl ml g k f0 o => ?_⟩
      · rcases List.mem_cons.mp z with rfl | z
        · exact cap a y
        · exact q3 p z a y
      · rcases List.mem_cons.mp z with rfl | z
        · exact List.mem_append_left _ y
        · exact List.mem_append_right _ (q5 p z a y)
      cases o with
      | @len _ _ _ t' _ fq _ _ _ ts' fl' rt' hq o =>
        have hj : j < ρ.length := (List.getElem?_eq_some_iff.mp e2).1
        have hn : (putBack ks (ρ.set j none) ts')[j]? = some none := putBack_none h1 (by rw [List.getElem?_set_self hj])
        obtain ⟨A1, R1, z1, z2, z3, z4⟩ := q6 M' H' ts' fl' ml g (fun a ha hb => k a (w4.mem_iff.mpr (List.mem_append_right _ ha)) fun p hp y => by
          rcases List.mem_cons.mp hp with rfl | hp
          · exact n3 a y ha
          · exact hb p hp y) f0 o
        obtain ⟨A2, y1, y2⟩ := z1.plug (SlR.o (F := F) (m := m) rt' (mo.chg fun a z => (hq a z).imp id (f0 a))) hn
        rw [ext_set ev] at y1
        refine ⟨A2, R1, ?_, ?_, z3, fun a z => ⟨w4.mem_iff.mpr (List.mem_append_right _ (z4 a z).1), fun p hp y => ?_⟩⟩
        · unfold putBack
          rw [e2]
          exact y1
        · rw [List.append_assoc]
          exact y2.trans (List.Perm.append_left fq z2)
        · rcases List.mem_cons.mp hp with rfl | hp
          · exact n3 a y (z4 a z).1
          · exact (z4 a z).2 p hp y
  | @ro v j vs ks ev _ ih =>
    intro i ρ as A r nd h
    obtain ⟨m, t, as', e2, h1, rfl⟩ := argsOf_ro h
    obtain ⟨v', fp, rest, w1, w2, w3, w4⟩ := r.focus e2
    rw [ev] at w1
    cases w1
    obtain ⟨n1, n2, n3⟩ := nd_parts nd w4
    have w2' := w2
    cases w2 with
    | o rt mo =>
      obtain ⟨C, B, q1, q2, q3, q4, q5, q6⟩ := ih w3 n2 h1
      refine ⟨fp ++ C, B, .ro rt q1, List.nodup_append.mpr ⟨n1, q2, fun a z b y e => n3 a z (q4 a (e ▸ y))⟩, q3, fun a z => w4.mem_iff.mpr ((List.mem_append.mp z).elim (fun z => List.mem_append_left _ z) fun z => List.mem_append_right _ (q4 a z)), fun p z a y => List.mem_append_right _ (q5 p z a y), fun M' H' ts fl ml g k f0 o => ?_⟩
      cases o with
      | ro o =>
        have hj : j < ρ.length := (List.getElem?_eq_some_iff.mp e2).1
        have hn : (putBack ks (ρ.set j none) ts)[j]? = some none := putBack_none h1 (by rw [List.getElem?_set_self hj])
        have out : ∀ a ∈ fp, ∀ p ∈ B, a ∉ p.2 := fun a ha p hp y => n3 a ha (q4 a (q5 p hp a y))
        obtain ⟨A1, R1, z1, z2, z3, z4⟩ := q6 M' H' ts fl ml g (fun a ha hb => k a (w4.mem_iff.mpr (List.mem_append_right _ ha)) hb) f0 o
        obtain ⟨A2, y1, y2⟩ := z1.plug (w2'.stp ml g fun a z => k a (w4.mem_iff.mpr (List.mem_append_left _ z)) (out a z)) hn
        rw [ext_set ev] at y1
        refine ⟨A2, fp ++ R1, ?_, ?_, List.nodup_append.mpr ⟨n1, z3, fun a z b y e => n3 a z ((z4 a (e ▸ y)).1)⟩, fun a z => ?_⟩
        · unfold putBack
          rw [e2]
          exact y1
        · refine (y2.trans (List.Perm.append_left fp z2)).trans ?_
          rw [← List.append_assoc, ← List.append_assoc]
          exact List.Perm.append_right R1 List.perm_append_comm
        · rcases List.mem_append.mp z with z | z
          · exact ⟨w4.mem_iff.mpr (List.mem_append_left _ z), out a z⟩
          · exact ⟨w4.mem_iff.mpr (List.mem_append_right _ (z4 a z).1), (z4 a z).2⟩
/-- a def has been called -/
theorem call_ok {vs : List V} {ks : List AK} {as : List Sl} {wf : WFn} {P : T → DE → Prop} {Q : VK} {W : WX} {mg : Str → Option Value} (R : RepX Z K F G M H σ ρ) (hk : AkR K M H σ vs ks) (ha : argsOf 0 ks ρ = some as) (hmg : Z.mg = mg) (hW : Z.W = W)
    (hw : wf as (fun t ts => P t (putBack ks ρ ts)) (fun ex ts => Z.x ex (putBack ks ρ ts))) (k : ∀ x ρ' v M' H', RepX Z K F ((v, x) :: G) M' H' σ ρ' → P x ρ' → Q v H') : spG K mg wf vs H Q (fun cls d H' => W cls d σ H') := by
  obtain ⟨r, cx⟩ := R
  have f0 : ∀ a, H a = none → F.H0 a = none := fun a z => r.fresh0 z
  have nM : ∀ a, H a = none → ¬ M a := fun a z => r.notM z
  obtain ⟨b, A, D, h1, h2, h3, h4⟩ := r
  have nd := List.nodup_append.mp h4
  obtain ⟨C, B, q1, q2, q3, q4, q5, q6⟩ := args_open (F := F) hk h1 nd.1 ha
  refine ⟨M, as, C, B, _, _, b.ml, q1, q2, hw, ?_, ?_⟩
  · intro tr ts v H' fr fl fr0 mu o rt ndn frn hp
    -- the addresses: the changed ones, the new ones
    have fln : ∀ {vs : List V} {as : List Sl} {B : List (Nat × List Addr)} {ts : List T} {fl : List Addr}, OutR K (fun a => M a ∨ a ∈ fr ++ fl) H' H vs as B ts fl → True := fun _ => trivial
    have flB : ∀ a ∈ fl, (∃ p ∈ B, a ∈ p.2) ∨ H a = none := by
      have key : ∀ {M2 : MS} {vs : List V} {as : List Sl} {B : List (Nat × List Addr)} {ts : List T} {fl : List Addr}, OutR K M2 H' H vs as B ts fl → ∀ a ∈ fl, (∃ p ∈ B, a ∈ p.2) ∨ H a = none := by
        intro M2 vs as B ts fl o
        induction o with
        | nil => intro a z; cases z
        | d _ ih => exact ih
        | ro _ ih => exact ih
        | len _ hq _ ih =>
          intro a z
          rcases List.mem_append.mp z with z | z
          · exact (hq a z).imp (fun y => ⟨_, List.mem_cons_self, y⟩) id
          · exact (ih a z).imp (fun ⟨p, y1, y2⟩ => ⟨p, List.mem_cons_of_mem _ y1, y2⟩) id
      exact key o
    have g : Stp M H (fun a => M a ∨ a ∈ fr ++ fl) H' := by
      refine ⟨fun a z => z.elim .inl fun z => ?_, fun a x n e => fr0 a x (fun p hp y => n (q1.memB p hp a y)) e⟩
      rcases List.mem_append.mp z with z | z
      · exact .inr (frn a z)
      · exact (flB a z).imp (fun ⟨p, y1, y2⟩ => q1.memB p y1 a y2) id
    have keep : ∀ a, M a → (∀ p ∈ B, a ∉ p.2) → (M a ∨ a ∈ fr ++ fl) ∧ H' a = H a := fun a ha hb => ⟨.inl ha, by
      have q := b.ml a ha
      cases e : H a with
      | none => rw [e] at q; exact q.elim
      | some x => exact fr0 a x hb e⟩
    obtain ⟨A', R', z1, z2, z3, z4⟩ := q6 _ H' ts fl b.ml g (fun a ha hb => keep a (h1.mem a ha) hb) f0 o
    have b' : Bs F (fun a => M a ∨ a ∈ fr ++ fl) H' := by
      refine ⟨fun a z => .inl (b.sub a z), b.m0, b.b0, mu, fun a z => ?_, fun a x e n => ?_⟩
      · rcases z with z | z
        · exact b.mn a z
        · rcases List.mem_append.mp z with z | z
          · exact .inr (f0 a (frn a z))
          · rcases flB a z with ⟨p, y1, y2⟩ | y
            · exact b.mn a (q1.memB p y1 a y2)
            · exact .inr (f0 a y)
      · refine fr0 a x (fun p hp y => ?_) (b.fr a x e n)
        rcases q3 p hp a y with ⟨i, w⟩ | w
        · exact n i w
        · rw [w] at e
          cases e
    have outD : ∀ a ∈ D, ∀ p ∈ B, a ∉ p.2 := fun a ha p hp y => nd.2.2 a (q4 a (q5 p hp a y)) a ha rfl
    have R' : RepS K F ((v, tr) :: G) (fun a => M a ∨ a ∈ fr ++ fl) H' σ (putBack ks ρ ts) := by
      refine ⟨b', A', fr ++ D, z1, .cons rt (h2.stp b.ml g fun a ha => keep a (h2.mem a ha) (outD a ha)), fun a z => (List.mem_append.mp z).elim (fun z => f0 a (frn a z)) (h3 a), ?_⟩
      have ndr := List.nodup_append.mp ndn
      refine (List.Perm.append_right (fr ++ D) z2).nodup_iff.mpr ?_
      refine List.nodup_append.mpr ⟨List.nodup_append.mpr ⟨ndr.2.1, z3, fun a x c y e => ?_⟩, List.nodup_append.mpr ⟨ndr.1, nd.2.1, fun a x c y e => ?_⟩, fun a x c y e => ?_⟩
      · subst e
        rcases flB a x with ⟨p, y1, y2⟩ | w
        · exact (z4 a y).2 p y1 y2
        · exact nM a w (h1.mem a (z4 a y).1)
      · subst e
        exact nM a (frn a x) (h2.mem a y)
      · subst e
        rcases List.mem_append.mp x with x | x
        · rcases List.mem_append.mp y with y | y
          · exact ndr.2.2 a y a x rfl
          · rcases flB a x with ⟨p, y1, y2⟩ | w
            · exact outD a y p y1 y2
            · exact nM a w (h2.mem a y)
        · rcases List.mem_append.mp y with y | y
          · exact nM a (frn a y) (h1.mem a (z4 a x).1)
          · exact nd.2.2 a (z4 a x).1 a y rfl
    exact k tr _ v _ H' ⟨R', fun ex cls d ρ' M' σ' H' r' => cx ex cls d ρ' M' σ' H' r'.pop⟩ hp
  · intro ex ts cls d H' fl fr0 mu o ndn hm hd hp
    have flB : ∀ a ∈ fl, (∃ p ∈ B, a ∈ p.2) ∨ H a = none := by
      have key : ∀ {M2 : MS} {vs : List V} {as : List Sl} {B : List (Nat × List Addr)} {ts : List T} {fl : List Addr}, OutR K M2 H' H vs as B ts fl → ∀ a ∈ fl, (∃ p ∈ B, a ∈ p.2) ∨ H a = none := by
        intro M2 vs as B ts fl o
        induction o with
        | nil => intro a z; cases z
        | d _ ih => exact ih
        | ro _ ih => exact ih
        | len _ hq _ ih =>
          intro a z
          rcases List.mem_append.mp z with z | z
          · exact (hq a z).imp (fun y => ⟨_, List.mem_cons_self, y⟩) id
          · exact (ih a z).imp (fun ⟨p, y1, y2⟩ => ⟨p, List.mem_cons_of_mem _ y1, y2⟩) id
      exact key o
    have g : Stp M H (fun a => M a ∨ a ∈ fl) H' := by
      refine ⟨fun a z => z.elim .inl fun z => (flB a z).imp (fun ⟨p, y1, y2⟩ => q1.memB p y1 a y2) id, fun a x n e => fr0 a x (fun p hp y => n (q1.memB p hp a y)) e⟩
    have keep : ∀ a, M a → (∀ p ∈ B, a ∉ p.2) → (M a ∨ a ∈ fl) ∧ H' a = H a := fun a ha hb => ⟨.inl ha, by
      have q := b.ml a ha
      cases e : H a with
      | none => rw [e] at q; exact q.elim
      | some x => exact fr0 a x hb e⟩
    obtain ⟨A', R', z1, z2, z3, z4⟩ := q6 _ H' ts fl b.ml g (fun a ha hb => keep a (h1.mem a ha) hb) f0 o
    have b' : Bs F (fun a => M a ∨ a ∈ fl) H' := by
      refine ⟨fun a z => .inl (b.sub a z), b.m0, b.b0, mu, fun a z => ?_, fun a x e n => ?_⟩
      · rcases z with z | z
        · exact b.mn a z
        · rcases flB a z with ⟨p, y1, y2⟩ | y
          · exact b.mn a (q1.memB p y1 a y2)
          · exact .inr (f0 a y)
      · refine fr0 a x (fun p hp y => ?_) (b.fr a x e n)
        rcases q3 p hp a y with ⟨i, w⟩ | w
        · exact n i w
        · rw [w] at e
          cases e
    have outD : ∀ a ∈ D, ∀ p ∈ B, a ∉ p.2 := fun a ha p hp y => nd.2.2 a (q4 a (q5 p hp a y)) a ha rfl
    have R' : RepS K F G (fun a => M a ∨ a ∈ fl) H' σ (putBack ks ρ ts) := by
      refine ⟨b', A', D, z1, h2.stp b.ml g fun a ha => keep a (h2.mem a ha) (outD a ha), h3, ?_⟩
      refine (List.Perm.append_right D z2).nodup_iff.mpr ?_
      refine List.nodup_append.mpr ⟨List.nodup_append.mpr ⟨ndn, z3, fun a x c y e => ?_⟩, nd.2.1, fun a x c y e => ?_⟩
      · subst e
        rcases flB a x with ⟨p, y1, y2⟩ | w
        · exact (z4 a y).2 p y1 y2
        · exact nM a w (h1.mem a (z4 a y).1)
      · subst e
        rcases List.mem_append.mp x with x | x
        · rcases flB a x with ⟨p, y1, y2⟩ | w
          · exact outD a y p y1 y2
          · exact nM a w (h2.mem a y)
        · exact nd.2.2 a (z4 a x).1 a y rfl
    rw [← hW]
    exact cx ex cls d _ _ σ H' R' (by rw [hmg]; exact hm) hd hp
end
end Dat
set_option Elab.async false
set_option linter.all false
set_option maxRecDepth 100000
set_option maxHeartbeats 4000000
namespace Dat
open PySem PySem.Spec PyProof.Rows L2
theorem takesN0 {X : Cx} : L2N.Takes X (fun _ _ _ _ => False) := fun _ _ ⟨_, _, _, _, _, _, _, _, _, _, _, _, _, _, _, _, z⟩ => z.elim
/-! ### a def keeps its promise -/
structure EndsOk (as : List Sl) (P : T → List T → Prop) (PX : Exc → List T → Prop) (E : DEnds) (x : WXd) : Prop where
  nx : ∀ ρ, E.nx ρ → ∃ ts, lents 0 as ρ ts ∧ P (.d .none) ts
  rt : ∀ y ρ, E.rt y ρ → ∃ ts, lents 0 as ρ ts ∧ P (.d y) ts
  rl : ∀ t ρ, E.rl t ρ → ∃ ts, lents 0 as ρ ts ∧ P t ts
  bk : ∀ ρ, ¬ E.bk ρ
  ct : ∀ ρ, ¬ E.ct ρ
  x : ∀ ex ρ, x ex ρ → ∃ ts, lents 0 as ρ ts ∧ PX ex ts
section
variable {P : Program} {w : World} {K : PySem.W.Frag} {mg : Str → Option Value} {base : Heap} {x qual : Str} {params : Arguments} {body : List Stmt} {scope : Scope} {dvs : List V} {kws : List (Str × V)} {f : Addr} {fd : FuncData} {N ps : List Str} {k : Nat}
theorem defG {wf : WFn} {wd : WXd → WS} (F : FunD K x qual params body scope dvs kws f fd) (S : FnScope N ps scope) (len : ∀ as P PX, wf as P PX → as.length = ps.length)
    (hb : ∀ (cdv : Value) (A : Around) (outer : List Env) (s : Shared) (H : Hp) (E : XK) (Z : XC), A.guards = some [] → Room k (A.deeper (envOfC qual scope s.heap.objs.size f cdv)) → L2N.Takes (cxOf (L2N.CX P w) P w K mg base N qual scope f cdv A outer s H E) Z.W → Z.mg = mg →
      ∃ t, PBd Z (cxOf (L2N.CX P w) P w K mg base N qual scope f cdv A outer s H E) body t (wd Z.x))
    (hw : ∀ as P PX, wf as P PX → ∃ E x, wd x E (startS N.length as) ∧ EndsOk as P PX E x) : FnG P w K mg base (k + 1) f fd ps (spG ⟨K, P, w⟩ mg wf) := by
  refine fnG_gen (CX' := L2N.CX P w) (fun _ _ _ _ _ _ h => h) id (fun _ _ _ _ _ _ h => h) F S (fun vs H Q E ⟨M, as, A, B, P, PX, _, ha, _, h, _⟩ => by rw [ha.length]; exact len as P PX h) fun cdv A outer s H vs Q E hg hr ⟨M, as, C, B, P', PX, ml, ha, nd, hwf, q1, q2⟩ => ?_
  obtain ⟨En, xd, hwd, ok⟩ := hw as P' PX hwf
  obtain ⟨t, ht⟩ := hb cdv A outer s H E ⟨mg, fun cls d _ H => E cls d H, xd⟩ hg hr (L2N.takes_of (X := cxOf (L2N.CX P w) P w K mg base N qual scope f cdv A outer s H E) rfl rfl rfl rfl) rfl
  have R0 : RepS (⟨K, P, w⟩ : KW) (frmG M H vs B) [] M H (L2.start N vs) (startS N.length as) := rep_start ml ha nd
  refine ⟨t, ht.p, ht.i _ [] M _ H _ ⟨R0, fun ex cls d ρ' M' σ' H' r hm hd hx => ?_⟩ En hwd _ ⟨fun ρ' M' σ' H' r e => ?_, fun y ρ' v M' σ' H' r ry e => ?_, fun ρ' M' σ' H' r e => (ok.bk ρ' e).elim, fun ρ' M' σ' H' r e => (ok.ct ρ' e).elim, fun tr ρ' v M' σ' H' r e => ?_⟩⟩
  · obtain ⟨ts, z1, z2⟩ := ok.x ex ρ' hx
    exact raise_ok ha q2 r hm hd z1 z2
  · obtain ⟨ts, z1, z2⟩ := ok.nx ρ' e
    exact ret_ok ha q1 (r.push .non) z1 z2
  · obtain ⟨ts, z1, z2⟩ := ok.rt y ρ' e
    exact ret_ok ha q1 (r.push ry) z1 z2
  · obtain ⟨ts, z1, z2⟩ := ok.rl tr ρ' e
    exact ret_ok ha q1 r z1 z2
end
/-! ### kinds of promises -/
abbrev WF := List PyData → (PyData → Prop) → Prop
abbrev WFL := List PyData → (T → Prop) → Prop
abbrev WFX := List PyData → (T → Prop) → (Exc → Prop) → Prop
abbrev WFB := T → List PyData → (PyData → T → Prop) → Prop
def dts (xs : List PyData) : List Sl := xs.map .d
def wfP (wf : WF) : WFn := fun as P _ => ∃ xs, as = dts xs ∧ wf xs fun x => P (.d x) []
def wfL (wf : WFL) : WFn := fun as P _ => ∃ xs, as = dts xs ∧ wf xs fun t => P t []
def wfX (wf : WFX) : WFn := fun as P PX => ∃ xs, as = dts xs ∧ wf xs (fun t => P t []) fun ex => PX ex []
def wfB (wf : WFB) : WFn := fun as P _ => ∃ t xs, as = .o (.len 0) t :: dts xs ∧ wf t xs fun x t' => P (.d x) [t']
/-- .. the first one is looked at -/
abbrev WFR := T → List PyData → (T → Prop) → (Exc → Prop) → Prop
def wfR (wf : WFR) : WFn := fun as P PX => ∃ t xs, as = .o .ro t :: dts xs ∧ wf t xs (fun t => P t []) fun ex => PX ex []
/-- the start of a def of n slots -/
abbrev startN (n : Nat) (xs : List PyData) : DE := xs.map (fun x => some (.d x)) ++ List.replicate (n - xs.length) none
abbrev startBN (n : Nat) (t : T) (xs : List PyData) : DE := some (.o (.len 0) t) :: (xs.map (fun x => some (.d x)) ++ List.replicate (n - (xs.length + 1)) none)
abbrev startRN (n : Nat) (t : T) (xs : List PyData) : DE := some (.o .ro t) :: (xs.map (fun x => some (.d x)) ++ List.replicate (n - (xs.length + 1)) none)
abbrev endsP (P : PyData → Prop) : DEnds := { nx := fun _ => P .none, rt := fun x _ => P x }
abbrev endsL (P : T → Prop) : DEnds := { nx := fun _ => P (.d .none), rt := fun x _ => P (.d x), rl := fun t _ => P t }
abbrev endsB (P : PyData → T → Prop) : DEnds := { nx := fun ρ => ∃ t, ρ[0]? = some (some (.o (.len 0) t)) ∧ P .none t, rt := fun x ρ => ∃ t, ρ[0]? = some (some (.o (.len 0) t)) ∧ P x t }
def noX : WXd := fun _ _ => False
theorem lents_dts {ρ : DE} : ∀ (xs : List PyData) (i : Nat), lents i (dts xs) ρ []
  | [], _ => rfl
  | _ :: xs, i => lents_dts xs (i + 1)
theorem dts_len (xs : List PyData) : (dts xs).length = xs.length := by unfold dts; rw [List.length_map]
theorem startS_dts (n : Nat) (xs : List PyData) : startS n (dts xs) = startN n xs := by unfold startS dts startN; rw [List.map_map, List.length_map]; rfl
section
variable {P : Program} {w : World} {K : PySem.W.Frag} {mg : Str → Option Value} {base : Heap} {x qual : Str} {params : Arguments} {body : List Stmt} {scope : Scope} {dvs : List V} {kws : List (Str × V)} {f : Addr} {fd : FuncData} {N ps : List Str} {k : Nat} {wd : WXd → WS}
theorem okP {wf : WF} (F : FunD K x qual params body scope dvs kws f fd) (S : FnScope N ps scope) (len : ∀ xs P, wf xs P → xs.length = ps.length)
    (hb : ∀ (cdv : Value) (A : Around) (outer : List Env) (s : Shared) (H : Hp) (E : XK) (Z : XC), A.guards = some [] → Room k (A.deeper (envOfC qual scope s.heap.objs.size f cdv)) → L2N.Takes (cxOf (L2N.CX P w) P w K mg base N qual scope f cdv A outer s H E) Z.W → Z.mg = mg →
      ∃ t, PBd Z (cxOf (L2N.CX P w) P w K mg base N qual scope f cdv A outer s H E) body t (wd Z.x))
    (hw : ∀ xs P, wf xs P → wd noX (endsP P) (startN N.length xs)) : FnG P w K mg base (k + 1) f fd ps (spG ⟨K, P, w⟩ mg (wfP wf)) := by
  refine defG F S (fun as P PX ⟨xs, e, h⟩ => by rw [e, dts_len]; exact len _ _ h) hb fun as P PX ⟨xs, e, h⟩ => ?_
  subst e
  have q := hw _ _ h
  rw [← startS_dts] at q
  exact ⟨_, _, q, fun ρ e => ⟨[], lents_dts xs 0, e⟩, fun y ρ e => ⟨[], lents_dts xs 0, e⟩, fun t ρ e => e.elim, fun _ e => e, fun _ e => e, fun ex ρ e => e.elim⟩
theorem okL {wf : WFL} (F : FunD K x qual params body scope dvs kws f fd) (S : FnScope N ps scope) (len : ∀ xs P, wf xs P → xs.length = ps.length)
    (hb : ∀ (cdv : Value) (A : Around) (outer : List Env) (s : Shared) (H : Hp) (E : XK) (Z : XC), A.guards = some [] → Room k (A.deeper (envOfC qual scope s.heap.objs.size f cdv)) → L2N.Takes (cxOf (L2N.CX P w) P w K mg base N qual scope f cdv A outer s H E) Z.W → Z.mg = mg →
      ∃ t, PBd Z (cxOf (L2N.CX P w) P w K mg base N qual scope f cdv A outer s H E) body t (wd Z.x))
    (hw : ∀ xs P, wf xs P → wd noX (endsL P) (startN N.length xs)) : FnG P w K mg base (k + 1) f fd ps (spG ⟨K, P, w⟩ mg (wfL wf)) := by
  refine defG F S (fun as P PX ⟨xs, e, h⟩ => by rw [e, dts_len]; exact len _ _ h) hb fun as P PX ⟨xs, e, h⟩ => ?_
  subst e
  have q := hw _ _ h
  rw [← startS_dts] at q
  exact ⟨_, _, q, fun ρ e => ⟨[], lents_dts xs 0, e⟩, fun y ρ e => ⟨[], lents_dts xs 0, e⟩, fun t ρ e => ⟨[], lents_dts xs 0, e⟩, fun _ e => e, fun _ e => e, fun ex ρ e => e.elim⟩
theorem okX {wf : WFX} (F : FunD K x qual params body scope dvs kws f fd) (S : FnScope N ps scope) (len : ∀ xs P PX, wf xs P PX → xs.length = ps.length)
    (hb : ∀ (cdv : Value) (A : Around) (outer : List Env) (s : Shared) (H : Hp) (E : XK) (Z : XC), A.guards = some [] → Room k (A.deeper (envOfC qual scope s.heap.objs.size f cdv)) → L2N.Takes (cxOf (L2N.CX P w) P w K mg base N qual scope f cdv A outer s H E) Z.W → Z.mg = mg →
      ∃ t, PBd Z (cxOf (L2N.CX P w) P w K mg base N qual scope f cdv A outer s H E) body t (wd Z.x))
    (hw : ∀ xs P PX, wf xs P PX → wd (fun ex _ => PX ex) (endsL P) (startN N.length xs)) : FnG P w K mg base (k + 1) f fd ps (spG ⟨K, P, w⟩ mg (wfX wf)) := by
  refine defG F S (fun as P PX ⟨xs, e, h⟩ => by rw [e, dts_len]; exact len _ _ _ h) hb fun as P PX ⟨xs, e, h⟩ => ?_
  subst e
  have q := hw _ _ _ h
  rw [← startS_dts] at q
  exact ⟨_, _, q, fun ρ e => ⟨[], lents_dts xs 0, e⟩, fun y ρ e => ⟨[], lents_dts xs 0, e⟩, fun t ρ e => ⟨[], lents_dts xs 0, e⟩, fun _ e => e, fun _ e => e, fun ex ρ e => ⟨[], lents_dts xs 0, e⟩⟩
theorem okB {wf : WFB} (F : FunD K x qual params body scope dvs kws f fd) (S : FnScope N ps scope) (len : ∀ t xs P, wf t xs P → xs.length + 1 = ps.length)
    (hb : ∀ (cdv : Value) (A : Around) (outer : List Env) (s : Shared) (H : Hp) (E : XK) (Z : XC), A.guards = some [] → Room k (A.deeper (envOfC qual scope s.heap.objs.size f cdv)) → L2N.Takes (cxOf (L2N.CX P w) P w K mg base N qual scope f cdv A outer s H E) Z.W → Z.mg = mg →
      ∃ t, PBd Z (cxOf (L2N.CX P w) P w K mg base N qual scope f cdv A outer s H E) body t (wd Z.x))
    (hw : ∀ t xs P, wf t xs P → wd noX (endsB P) (startBN N.length t xs)) : FnG P w K mg base (k + 1) f fd ps (spG ⟨K, P, w⟩ mg (wfB wf)) := by
  refine defG F S (fun as P PX ⟨t, xs, e, h⟩ => by rw [e, List.length_cons, dts_len]; exact len _ _ _ h) hb fun as P PX ⟨t, xs, e, h⟩ => ?_
  subst e
  have q := hw _ _ _ h
  have e2 : startS N.length (.o (.len 0) t :: dts xs) = startBN N.length t xs := by unfold startS dts startBN; rw [List.map_cons, List.map_map, List.length_cons, List.length_map]; rfl
  rw [← e2] at q
  exact ⟨_, _, q, fun ρ ⟨t, e1, e2⟩ => ⟨[t], ⟨t, [], rfl, e1, lents_dts xs 1⟩, e2⟩, fun y ρ ⟨t, e1, e2⟩ => ⟨[t], ⟨t, [], rfl, e1, lents_dts xs 1⟩, e2⟩, fun t ρ e => e.elim, fun _ e => e, fun _ e => e, fun ex ρ e => e.elim⟩
theorem okR {wf : WFR} (F : FunD K x qual params body scope dvs kws f fd) (S : FnScope N ps scope) (len : ∀ t xs P PX, wf t xs P PX → xs.length + 1 = ps.length)
    (hb : ∀ (cdv : Value) (A : Around) (outer : List Env) (s : Shared) (H : Hp) (E : XK) (Z : XC), A.guards = some [] → Room k (A.deeper (envOfC qual scope s.heap.objs.size f cdv)) → L2N.Takes (cxOf (L2N.CX P w) P w K mg base N qual scope f cdv A outer s H E) Z.W → Z.mg = mg →
      ∃ t, PBd Z (cxOf (L2N.CX P w) P w K mg base N qual scope f cdv A outer s H E) body t (wd Z.x))
    (hw : ∀ t xs P PX, wf t xs P PX → wd (fun ex _ => PX ex) (endsL P) (startRN N.length t xs)) : FnG P w K mg base (k + 1) f fd ps (spG ⟨K, P, w⟩ mg (wfR wf)) := by
  refine defG F S (fun as P PX ⟨t, xs, e, h⟩ => by rw [e, List.length_cons, dts_len]; exact len _ _ _ _ h) hb fun as P PX ⟨t, xs, e, h⟩ => ?_
  subst e
  have q := hw _ _ _ _ h
  have e2 : startS N.length (.o .ro t :: dts xs) = startRN N.length t xs := by unfold startS dts startRN; rw [List.map_cons, List.map_map, List.length_cons, List.length_map]; rfl
  rw [← e2] at q
  exact ⟨_, _, q, fun ρ e => ⟨[], lents_dts xs 1, e⟩, fun y ρ e => ⟨[], lents_dts xs 1, e⟩, fun t ρ e => ⟨[], lents_dts xs 1, e⟩, fun _ e => e, fun _ e => e, fun ex ρ e => ⟨[], lents_dts xs 1, e⟩⟩
end
/-! ### calls -/
def tCallW (sp : Sp) (dvs : List V) (W : WX) (t : TA) : TE := fun σ H Q => t σ H fun vs H1 => sp (vs ++ dvs) H1 Q fun cls d H' => W cls d σ H'
def tCallKW (n m : Nat) (sp : Sp) (W : WX) (t tk : TA) : TE := fun σ H Q => t σ H fun vs H1 => tk σ H1 fun zs H2 => vs.length = n ∧ zs.length = m ∧ sp (vs ++ zs) H2 Q fun cls d H' => W cls d σ H'
section
variable {X : Cx} {k : Nat} {f : Addr} {fd : FuncData} {ps ks : List Str} {sp : Sp} {dvs : List V} {ds : List Value} {x : Str} {p pos kpos : Pos} {e : Expr} {es : List Expr} {t tk tr : TA} {te : TE} {we : WE} {wr wk : WA} {kws : List Keyword} {W : WX}
theorem ran_call {pins : List (Addr × Obj)} {σ : L2.St} {H : Hp} {s : Shared} {Q : VK} {us us' : List Value} {vs : List V} {kw : List (Str × Value)} (F : FnG X.prog X.w X.K X.mg X.base k f fd ps sp) (hg : X.A.guards = some []) (hr : Room k X.A) (tk : L2N.Takes X W) (I : Inv X pins σ H s)
    (hb : BindsTo s fd ⟨us, kw⟩ (ps.zip us')) (r : Vals vs us') (h : sp vs H Q fun cls d H' => W cls d σ H') : wpAny (model X.prog X.w) X.A (call (.ref f) us kw) (EP X pins σ Q) X.xe s := by
  refine wpAny_call (codeAny_mono (F.run X.A X.stack s H ⟨us, kw⟩ us' vs Q _ hg hr I.env0 hb r h) fun r s' hq => ?_)
  match r, hq with
  | .ok (.ret u), hq => exact I.after hq
  | .ok .next, hq => exact False.elim hq
  | .ok .brk, hq => exact False.elim hq
  | .ok .cont, hq => exact False.elim hq
  | .error e, hq => exact L2N.passAt tk σ pins H s e s' I hq
theorem pe_callW (F : FnG X.prog X.w X.K X.mg X.base k f fd ps sp) (hg : X.A.guards = some []) (hr : Room k X.A) (tk : L2N.Takes X W) (gl : Gl X x) (hm : X.mg x = some (.ref f)) (hk : PySem.W.keepIn X.K (.ref f) = true) (hb : Binds X.K fd ps ds) (hd : Vals dvs ds)
    (ha : PA X (e :: es) t) (hdb : (x == ("__debug__" : Str)) = false := by decide) (he : starEach (e :: es) X.env = (false, eval e X.env) :: starEach es X.env := by rfl) (hpl : (backTo pos (starEach es X.env)).any (·.1) = false := by rfl) :
    PE X (.Call (.Name x p) (e :: es) [] pos) (tCallW sp dvs W t) := by
  refine ⟨fun pins s σ H Q I h => wpAny_Call_Name_kw (ld_glob I gl hm ?_ hdb)⟩
  refine PySem.W.callWith_K (h₀ := X.base) I.ok.mod.kin hk (thn (ha.run pos pins s σ H _ I h) fun us s1 ⟨vs, H1, I1, r, q⟩ => ⟨I1.kIn, ?_⟩) he hpl
  have r2 : Vals (vs ++ dvs) (us ++ ds) := r.append hd
  exact ran_call F hg hr tk I1 (hb s1 us I1.kIn (by rw [← r2.length]; exact F.len _ _ _ _ q)) r2 q
theorem pe_callKW {n : Nat} (F : FnG X.prog X.w X.K X.mg X.base k f fd ps sp) (hg : X.A.guards = some []) (hr : Room k X.A) (tk' : L2N.Takes X W) (gl : Gl X x) (hm : X.mg x = some (.ref f)) (hk : PySem.W.keepIn X.K (.ref f) = true) (hb : KBn X.K fd ps n ks (· ++ ·) (· ++ ·))
    (ha : PA X (e :: es) t) (hkw : PK X kws tk) (hall : (backToKw pos (keywordEach kws X.env)).all (·.1.isSome) = true := by rfl) (hks : (backToKw pos (keywordEach kws X.env)).filterMap (·.1) = ks := by rfl)
    (hdb : (x == ("__debug__" : Str)) = false := by decide) (he : starEach (e :: es) X.env = (false, eval e X.env) :: starEach es X.env := by rfl)
    (hpl : ((backTo pos (starEach (e :: es) X.env)).any (·.1) || (backToKw pos (keywordEach kws X.env)).any (·.1.isNone)) = false := by rfl) :
    PE X (.Call (.Name x p) (e :: es) kws pos) (tCallKW n ks.length sp W t tk) := by
  refine ⟨fun pins s σ H Q I h => wpAny_Call_Name_kw (ld_glob I gl hm ?_ hdb)⟩
  refine PySem.W.callWith_KW (h₀ := X.base) I.ok.mod.kin hk hall (thn (ha.run pos pins s σ H _ I h) fun us s1 ⟨vs, H1, I1, r, q⟩ => ?_) hpl he
  refine thn (hkw.run pos pins s1 σ H1 _ I1 q) fun ws s2 ⟨zs, H2, I2, rz, l1, l2, q2⟩ => ⟨I2.kIn, ?_⟩
  rw [hks]
  exact ran_call F hg hr tk' I2 (hb.to s2 us ws I2.kIn (r.length.symm.trans l1) (rz.length.symm.trans l2)) (hb.rel r rz) q2
end
/-! arguments -/
abbrev WAk := DE → (List AK → DE → Prop) → Prop
def ImpAk (Z : XC) (K : KW) (t : TA) (w : WAk) : Prop := ∀ (F : Frm) (G : List (V × T)) (M : MS) (σ : L2.St) (H : Hp) (ρ : DE), RepX Z K F G M H σ ρ → ∀ P, w ρ P → ∀ Q : List V → Hp → Prop,
  (∀ ks ρ' vs M' H', RepX Z K F G M' H' σ ρ' → AkR K M' H' σ vs ks → P ks ρ' → Q vs H') → t σ H Q
structure PAk (Z : XC) (X : Cx) (es : List Expr) (t : TA) (w : WAk) : Prop where
  p : PA X es t
  i : ImpAk Z X.kw t w
def wkNil : WAk := fun ρ P => P [] ρ
def wkD (we : WE) (wr : WAk) : WAk := fun ρ P => we ρ fun x ρ1 => wr ρ1 fun ks ρ2 => P (.d x :: ks) ρ2
def wkOwn (j : Nat) (wr : WAk) : WAk := fun ρ P => (∃ m t, ρ[j]? = some (some (.o m t))) ∧ wr ρ fun ks ρ2 => P (.own j :: ks) ρ2
def wkRo (j : Nat) (wr : WAk) : WAk := fun ρ P => (∃ m t, ρ[j]? = some (some (.o m t))) ∧ wr ρ fun ks ρ2 => P (.ro j :: ks) ρ2
section
variable {Z : XC} {K : KW} {X : Cx} {e : Expr} {es : List Expr} {te : TE} {we : WE} {t : TA} {wr : WA} {wk : WAk} {pos : Pos}
theorem ak_nil : PAk Z X [] tNil wkNil := ⟨pa_nil, fun F G M σ H ρ R P hp Q k => k [] ρ [] M H R .nil hp⟩
theorem ak_d (h : PEd Z X e te we) (hr : PAk Z X es t wk) (hs : starEach (e :: es) X.env = (false, eval e X.env) :: starEach es X.env := by rfl) : PAk Z X (e :: es) (tCons te t) (wkD we wk) := by
  refine ⟨pa_cons h.p hr.p hs, fun F G M σ H ρ R P hw Q k => ?_⟩
  refine h.i F G M σ H ρ R _ hw _ fun x ρ1 v M1 H1 R1 r1 hw1 => ?_
  refine hr.i F _ M1 σ H1 ρ1 (R1.push r1) _ hw1 _ fun ks ρ2 vs M2 H2 R2 r2 q => ?_
  exact k _ ρ2 _ M2 H2 (R.to R2.r.pop) (.d R2.r.topD r2) q
theorem ak_own (j : Nat) {y : Str} {py : Pos} (hr : PAk Z X es t wk) (hN : X.N[j]? = some y := by rfl) (hv : Vis X.env.scope y := by first | exact Or.inl rfl | exact Or.inr (Or.inl rfl) | exact Or.inr (Or.inr rfl)) (hd : (y == ("__debug__" : Str)) = false := by decide) (hcd : (y == ("__classdict__" : Str)) = false := by decide)
    (hs : starEach (.Name y py :: es) X.env = (false, eval (.Name y py) X.env) :: starEach es X.env := by rfl) : PAk Z X (.Name y py :: es) (tCons (tVar j) t) (wkOwn j wk) := by
  refine ⟨pa_cons (pe_var hN hv hd hcd) hr.p hs, fun F G M σ H ρ R P hw Q k => ?_⟩
  obtain ⟨⟨m, tr, e⟩, hw⟩ := hw
  obtain ⟨v, fp, h1, h2, h3⟩ := R.r.own e
  refine ⟨v, h1, ?_⟩
  exact hr.i F G M σ H ρ R _ hw _ fun ks ρ2 vs M2 H2 R2 r2 q => k _ ρ2 _ M2 H2 R2 (.own h1 r2) q
theorem ak_ro (j : Nat) {y : Str} {py : Pos} (hr : PAk Z X es t wk) (hN : X.N[j]? = some y := by rfl) (hv : Vis X.env.scope y := by first | exact Or.inl rfl | exact Or.inr (Or.inl rfl) | exact Or.inr (Or.inr rfl)) (hd : (y == ("__debug__" : Str)) = false := by decide) (hcd : (y == ("__classdict__" : Str)) = false := by decide)
    (hs : starEach (.Name y py :: es) X.env = (false, eval (.Name y py) X.env) :: starEach es X.env := by rfl) : PAk Z X (.Name y py :: es) (tCons (tVar j) t) (wkRo j wk) := by
  refine ⟨pa_cons (pe_var hN hv hd hcd) hr.p hs, fun F G M σ H ρ R P hw Q k => ?_⟩
  obtain ⟨⟨m, tr, e⟩, hw⟩ := hw
  obtain ⟨v, fp, h1, h2, h3⟩ := R.r.own e
  refine ⟨v, h1, ?_⟩
  exact hr.i F G M σ H ρ R _ hw _ fun ks ρ2 vs M2 H2 R2 r2 q => k _ ρ2 _ M2 H2 R2 (.ro h1 r2) q
theorem AkR.data {M : MS} {H : Hp} {σ : L2.St} : ∀ {vs : List V} {xs : List PyData}, RpAll K M H vs xs → AkR K M H σ vs (xs.map .d)
  | _, [], .nil => .nil
  | _, _ :: _, .cons r t => .d r (AkR.data t)
theorem AkR.app {M : MS} {H : Hp} {σ : L2.St} {vs us : List V} {ks ls : List AK} (h : AkR K M H σ vs ks) (q : AkR K M H σ us ls) : AkR K M H σ (vs ++ us) (ks ++ ls) := by
  induction h with
  | nil => exact q
  | d r _ ih => exact .d r ih
  | own e _ ih => exact .own e ih
  | ro e _ ih => exact .ro e ih
theorem argsOf_data : ∀ (xs : List PyData) (i : Nat) (ρ : DE), argsOf i (xs.map .d) ρ = some (dts xs)
  | [], _, _ => rfl
  | x :: xs, i, ρ => by
    show (argsOf (i + 1) (xs.map .d) ρ).map _ = _
    rw [argsOf_data xs (i + 1) ρ]
    rfl
theorem putBack_data : ∀ (xs : List PyData) (ρ : DE) (ts : List T), putBack (xs.map .d) ρ ts = ρ
  | [], _, _ => rfl
  | _ :: xs, ρ, ts => putBack_data xs ρ ts
end
end Dat
set_option Elab.async false
set_option linter.all false
set_option maxRecDepth 100000
set_option maxHeartbeats 4000000
namespace Dat
open PySem PySem.Spec PyProof.Rows L2
/-! ### calls over data, by kinds -/
def Z0 (mg : Str → Option Value) : XC := ⟨mg, fun _ _ _ _ => False, noX⟩
section
variable {Z : XC} {K : KW} {F : Frm} {G : List (V × T)} {M : MS} {H : Hp} {σ : L2.St} {ρ : DE} {mg : Str → Option Value} {Q : VK}
theorem call0 {vs : List V} {ks : List AK} {as : List Sl} {wf : WFn} {P : T → DE → Prop} (R : RepX Z K F G M H σ ρ) (hk : AkR K M H σ vs ks) (ha : argsOf 0 ks ρ = some as)
    (hw : wf as (fun t ts => P t (putBack ks ρ ts)) (fun _ _ => False)) (k : ∀ x ρ' v M' H', RepX Z K F ((v, x) :: G) M' H' σ ρ' → P x ρ' → Q v H') : spG K mg wf vs H Q (fun _ _ _ => False) :=
  call_ok (Z := Z0 mg) (W := fun _ _ _ _ => False) ⟨R.r, fun _ _ _ _ _ _ _ _ _ _ z => z.elim⟩ hk ha rfl rfl hw fun x ρ' v M' H' R' q => k x ρ' v M' H' (R.up R'.r) q
def onD (P : PyData → DE → Prop) : T → DE → Prop
  | .d x, ρ => P x ρ
  | _, _ => False
theorem call_P {vs : List V} {xs : List PyData} {wf : WF} {P : PyData → DE → Prop} (R : RepX Z K F G M H σ ρ) (ha : RpAll K M H vs xs) (hw : wf xs fun z => P z ρ) (k : ∀ x ρ' v M' H', RepX Z K F G M' H' σ ρ' → Rp K M' H' v x → P x ρ' → Q v H') : spG K mg (wfP wf) vs H Q (fun _ _ _ => False) := by
  refine call0 (P := onD P) R (AkR.data ha) (argsOf_data xs 0 ρ) ⟨xs, rfl, ?_⟩ fun x ρ' v M' H' R' q => ?_
  · simp only [putBack_data]
    exact hw
  · cases x with
    | d x => exact k x ρ' v M' H' (R.to R'.r.pop) R'.r.topD q
    | _ => exact q.elim
theorem call_L {vs : List V} {xs : List PyData} {wf : WFL} {P : T → DE → Prop} (R : RepX Z K F G M H σ ρ) (ha : RpAll K M H vs xs) (hw : wf xs fun z => P z ρ) (k : ∀ x ρ' v M' H', RepX Z K F ((v, x) :: G) M' H' σ ρ' → P x ρ' → Q v H') : spG K mg (wfL wf) vs H Q (fun _ _ _ => False) := by
  refine call0 (P := P) R (AkR.data ha) (argsOf_data xs 0 ρ) ⟨xs, rfl, ?_⟩ k
  simp only [putBack_data]
  exact hw
theorem call_X {vs : List V} {xs : List PyData} {wf : WFX} {P : T → DE → Prop} (R : RepX Z K F G M H σ ρ) (ha : RpAll K M H vs xs) (hm : Z.mg = mg) (hw : wf xs (fun z => P z ρ) fun ex => Z.x ex ρ) (k : ∀ x ρ' v M' H', RepX Z K F ((v, x) :: G) M' H' σ ρ' → P x ρ' → Q v H') : spG K mg (wfX wf) vs H Q (fun cls d H' => Z.W cls d σ H') := by
  refine call_ok (P := P) R (AkR.data ha) (argsOf_data xs 0 ρ) hm rfl ⟨xs, rfl, ?_⟩ k
  simp only [putBack_data]
  exact hw
theorem call_B {v0 : V} {vs : List V} {xs : List PyData} {wf : WFB} {P : PyData → DE → Prop} {i : Nat} {m : Md} {t : T} (R : RepX Z K F G M H σ ρ) (hi : σ[i]? = some (some v0)) (e : ρ[i]? = some (some (.o m t))) (hm : m.may = true) (ha : RpAll K M H vs xs) (hw : wf t xs fun z t' => P z (ρ.set i (some (.o m t'))))
    (k : ∀ x ρ' v M' H', RepX Z K F G M' H' σ ρ' → Rp K M' H' v x → P x ρ' → Q v H') : spG K mg (wfB wf) (v0 :: vs) H Q (fun _ _ _ => False) := by
  have ea : argsOf 0 (.own i :: xs.map .d) ρ = some (.o (.len 0) t :: dts xs) := by
    unfold argsOf
    rw [e]
    show (if m.may = true then _ else _) = _
    rw [if_pos hm, argsOf_data]
    rfl
  refine call0 (P := onD P) R (.own hi (AkR.data ha)) ea ⟨t, xs, rfl, ?_⟩ fun x ρ' v M' H' R' q => ?_
  · have eb : ∀ t', putBack (.own i :: xs.map .d) ρ [t'] = ρ.set i (some (.o m t')) := fun t' => by
      unfold putBack
      rw [e]
      show (putBack (xs.map .d) (ρ.set i none) []).set i _ = _
      rw [putBack_data, List.set_set]
    have ef : (fun x t' => onD P (.d x) (putBack (.own i :: xs.map .d) ρ [t'])) = fun z t' => P z (ρ.set i (some (.o m t'))) := by
      funext x t'
      rw [eb]
      rfl
    rw [ef]
    exact hw
  · cases x with
    | d x => exact k x ρ' v M' H' (R.to R'.r.pop) R'.r.topD q
    | _ => exact q.elim
theorem call_R {v0 : V} {vs : List V} {xs : List PyData} {wf : WFR} {P : T → DE → Prop} {i : Nat} {m : Md} {t : T} (R : RepX Z K F G M H σ ρ) (hi : σ[i]? = some (some v0)) (e : ρ[i]? = some (some (.o m t))) (ha : RpAll K M H vs xs) (hm : Z.mg = mg) (hw : wf t xs (fun z => P z ρ) fun ex => Z.x ex ρ)
    (k : ∀ x ρ' v M' H', RepX Z K F ((v, x) :: G) M' H' σ ρ' → P x ρ' → Q v H') : spG K mg (wfR wf) (v0 :: vs) H Q (fun cls d H' => Z.W cls d σ H') := by
  have ea : argsOf 0 (.ro i :: xs.map .d) ρ = some (.o .ro t :: dts xs) := by
    unfold argsOf
    rw [e]
    show Option.map _ (argsOf 1 (xs.map .d) (ρ.set i none)) = _
    rw [argsOf_data]
    rfl
  have eb : ∀ ts, putBack (.ro i :: xs.map .d) ρ ts = ρ := fun ts => by
    unfold putBack
    rw [putBack_data, List.set_set, e]
    exact ext_set e
  refine call_ok (P := P) R (.ro hi (AkR.data ha)) ea hm rfl ⟨t, xs, rfl, ?_⟩ k
  have e1 : (fun t => P t (putBack (.ro i :: xs.map .d) ρ [])) = fun z => P z ρ := by funext z; rw [eb]
  have e2 : (fun ex => Z.x ex (putBack (.ro i :: xs.map .d) ρ [])) = fun ex => Z.x ex ρ := by funext z; rw [eb]
  rw [e1, e2]
  exact hw
end
def wCall (wf : WF) (dds : List PyData) (wr : WA) : WE := fun ρ P => wr ρ fun xs ρ1 => wf (xs ++ dds) fun z => P z ρ1
def wCallK (n m : Nat) (wf : WF) (wr wk : WA) : WE := fun ρ P => wr ρ fun xs ρ1 => wk ρ1 fun ys ρ2 => xs.length = n ∧ ys.length = m ∧ wf (xs ++ ys) fun z => P z ρ2
def wCallL (wf : WFL) (dds : List PyData) (wr : WA) : WN := fun ρ P => wr ρ fun xs ρ1 => wf (xs ++ dds) fun z => P z ρ1
def wCallLK (n m : Nat) (wf : WFL) (wr wk : WA) : WN := fun ρ P => wr ρ fun xs ρ1 => wk ρ1 fun ys ρ2 => xs.length = n ∧ ys.length = m ∧ wf (xs ++ ys) fun z => P z ρ2
def wCallX (x : WXd) (wf : WFX) (dds : List PyData) (wr : WA) : WN := fun ρ P => wr ρ fun xs ρ1 => wf (xs ++ dds) (fun z => P z ρ1) fun ex => x ex ρ1
def wCallXK (x : WXd) (n m : Nat) (wf : WFX) (wr wk : WA) : WN := fun ρ P => wr ρ fun xs ρ1 => wk ρ1 fun ys ρ2 => xs.length = n ∧ ys.length = m ∧ wf (xs ++ ys) (fun z => P z ρ2) fun ex => x ex ρ2
def wCallB (i : Nat) (wf : WFB) (wr : WA) : WE := fun ρ P => (∃ b t, ρ[i]? = some (some (.o b t))) ∧ wr ρ fun xs ρ1 => ∃ b t, ρ1[i]? = some (some (.o b t)) ∧ b.may = true ∧ wf t xs fun z t' => P z (ρ1.set i (some (.o b t')))
def wCallR (x : WXd) (i : Nat) (wf : WFR) (dds : List PyData) (wr : WA) : WN := fun ρ P => (∃ b t, ρ[i]? = some (some (.o b t))) ∧ wr ρ fun xs ρ1 => ∃ b t, ρ1[i]? = some (some (.o b t)) ∧ wf t (xs ++ dds) (fun z => P z ρ1) fun ex => x ex ρ1
structure PKd (Z : XC) (X : Cx) (kws : List Keyword) (t : TA) (w : WA) : Prop where
  p : PK X kws t
  i : ImpA Z X.kw t w
/-! ### a def that may be called -/
structure Cal (P : Program) (w : World) (K : PySem.W.Frag) (mg : Str → Option Value) (base : Heap) (x : Str) (k : Nat) (ps : List Str) (wf : WFn) (f : Addr) (fd : FuncData) : Prop where
  g : FnG P w K mg base k f fd ps (spG ⟨K, P, w⟩ mg wf)
  m : mg x = some (.ref f)
  kp : PySem.W.keepIn K (.ref f) = true
  bd : Binds K fd ps []
/-- .. with keyword-only parameters, the last ones, and their defaults -/
structure CalK (P : Program) (w : World) (K : PySem.W.Frag) (mg : Str → Option Value) (base : Heap) (x : Str) (k n : Nat) (ps ks : List Str) (dvs : List V) (wf : WFn) (f : Addr) (fd : FuncData) : Prop where
  g : FnG P w K mg base k f fd ps (spG ⟨K, P, w⟩ mg wf)
  m : mg x = some (.ref f)
  kp : PySem.W.keepIn K (.ref f) = true
  kb : KBn K fd ps n ks (· ++ ·) (· ++ ·)
  dv : ∃ ds, Vals dvs ds ∧ Binds K fd ps ds
section
variable {Z : XC} {X : Cx} {k n : Nat} {f : Addr} {fd : FuncData} {ps ks : List Str} {dvs : List V} {ds : List Value} {x : Str} {pn pos kpos : Pos} {e : Expr} {es : List Expr} {tr tk : TA} {te : TE} {we : WE} {wr wk : WA} {kws : List Keyword}
theorem k_nil : PKd Z X [] tNil wNil := ⟨pk_nil, imp_nil⟩
theorem k_cons {nm : Option Str} (ha : PEd Z X e te we) (hr : PKd Z X kws tk wk) : PKd Z X (⟨nm, e, kpos⟩ :: kws) (tCons te tk) (wCons we wk) := ⟨pk_cons ha.p hr.p, imp_cons ha.i hr.i⟩
theorem d_callP {wf : WF} {dds : List PyData} (F : FnG X.prog X.w X.K X.mg X.base k f fd ps (spG X.kw X.mg (wfP wf))) (hg : X.A.guards = some []) (hr : Room k X.A) (hm : X.mg x = some (.ref f)) (hk : PySem.W.keepIn X.K (.ref f) = true) (hb : Binds X.K fd ps ds) (hd : Vals dvs ds) (hdd : ∀ M H, RpAll X.kw M H dvs dds)
    (ha : PAd Z X (e :: es) tr wr) (gl : Gl X x := by rfl) (hdb : (x == ("__debug__" : Str)) = false := by decide) (he : starEach (e :: es) X.env = (false, eval e X.env) :: starEach es X.env := by rfl) (hpl : (backTo pos (starEach es X.env)).any (·.1) = false := by rfl) :
    PEd Z X (.Call (.Name x pn) (e :: es) [] pos) (tCallW (spG X.kw X.mg (wfP wf)) dvs (fun _ _ _ _ => False) tr) (wCall wf dds wr) := by
  refine ⟨pe_callW F hg hr takesN0 gl hm hk hb hd ha.p hdb he hpl, fun F G M σ H ρ R P hw Q kk => ?_⟩
  exact ha.i F G M σ H ρ R _ hw _ fun xs ρ1 vs M1 H1 R1 r1 q => call_P R1 (r1.append (hdd M1 H1)) q kk
theorem d_callL {wf : WFL} {dds : List PyData} (F : FnG X.prog X.w X.K X.mg X.base k f fd ps (spG X.kw X.mg (wfL wf))) (hg : X.A.guards = some []) (hr : Room k X.A) (hm : X.mg x = some (.ref f)) (hk : PySem.W.keepIn X.K (.ref f) = true) (hb : Binds X.K fd ps ds) (hd : Vals dvs ds) (hdd : ∀ M H, RpAll X.kw M H dvs dds)
    (ha : PAd Z X (e :: es) tr wr) (gl : Gl X x := by rfl) (hdb : (x == ("__debug__" : Str)) = false := by decide) (he : starEach (e :: es) X.env = (false, eval e X.env) :: starEach es X.env := by rfl) (hpl : (backTo pos (starEach es X.env)).any (·.1) = false := by rfl) :
    PNd Z X (.Call (.Name x pn) (e :: es) [] pos) (tCallW (spG X.kw X.mg (wfL wf)) dvs (fun _ _ _ _ => False) tr) (wCallL wf dds wr) := by
  refine ⟨pe_callW F hg hr takesN0 gl hm hk hb hd ha.p hdb he hpl, fun F G M σ H ρ R P hw Q kk => ?_⟩
  exact ha.i F G M σ H ρ R _ hw _ fun xs ρ1 vs M1 H1 R1 r1 q => call_L R1 (r1.append (hdd M1 H1)) q kk
theorem d_callX {wf : WFX} {dds : List PyData} (F : FnG X.prog X.w X.K X.mg X.base k f fd ps (spG X.kw X.mg (wfX wf))) (hg : X.A.guards = some []) (hr : Room k X.A) (tk : L2N.Takes X Z.W) (hz : Z.mg = X.mg) (hm : X.mg x = some (.ref f)) (hk : PySem.W.keepIn X.K (.ref f) = true) (hb : Binds X.K fd ps ds) (hd : Vals dvs ds) (hdd : ∀ M H, RpAll X.kw M H dvs dds)
    (ha : PAd Z X (e :: es) tr wr) (gl : Gl X x := by rfl) (hdb : (x == ("__debug__" : Str)) = false := by decide) (he : starEach (e :: es) X.env = (false, eval e X.env) :: starEach es X.env := by rfl) (hpl : (backTo pos (starEach es X.env)).any (·.1) = false := by rfl) :
    PNd Z X (.Call (.Name x pn) (e :: es) [] pos) (tCallW (spG X.kw X.mg (wfX wf)) dvs Z.W tr) (wCallX Z.x wf dds wr) := by
  refine ⟨pe_callW F hg hr tk gl hm hk hb hd ha.p hdb he hpl, fun F G M σ H ρ R P hw Q kk => ?_⟩
  exact ha.i F G M σ H ρ R _ hw _ fun xs ρ1 vs M1 H1 R1 r1 q => call_X R1 (r1.append (hdd M1 H1)) hz q kk
theorem Cal.p {wf : WF} (C : Cal X.prog X.w X.K X.mg X.base x k ps (wfP wf) f fd) (hg : X.A.guards = some []) (hr : Room k X.A) (ha : PAd Z X (e :: es) tr wr) (gl : Gl X x := by rfl) (hdb : (x == ("__debug__" : Str)) = false := by decide) (he : starEach (e :: es) X.env = (false, eval e X.env) :: starEach es X.env := by rfl) (hpl : (backTo pos (starEach es X.env)).any (·.1) = false := by rfl) :
    PEd Z X (.Call (.Name x pn) (e :: es) [] pos) (tCallW (spG X.kw X.mg (wfP wf)) [] (fun _ _ _ _ => False) tr) (wCall wf [] wr) := d_callP C.g hg hr C.m C.kp C.bd .nil (fun _ _ => .nil) ha gl hdb he hpl
theorem Cal.l {wf : WFL} (C : Cal X.prog X.w X.K X.mg X.base x k ps (wfL wf) f fd) (hg : X.A.guards = some []) (hr : Room k X.A) (ha : PAd Z X (e :: es) tr wr) (gl : Gl X x := by rfl) (hdb : (x == ("__debug__" : Str)) = false := by decide) (he : starEach (e :: es) X.env = (false, eval e X.env) :: starEach es X.env := by rfl) (hpl : (backTo pos (starEach es X.env)).any (·.1) = false := by rfl) :
    PNd Z X (.Call (.Name x pn) (e :: es) [] pos) (tCallW (spG X.kw X.mg (wfL wf)) [] (fun _ _ _ _ => False) tr) (wCallL wf [] wr) := d_callL C.g hg hr C.m C.kp C.bd .nil (fun _ _ => .nil) ha gl hdb he hpl
theorem Cal.xx {wf : WFX} (C : Cal X.prog X.w X.K X.mg X.base x k ps (wfX wf) f fd) (hg : X.A.guards = some []) (hr : Room k X.A) (tk : L2N.Takes X Z.W) (hz : Z.mg = X.mg) (ha : PAd Z X (e :: es) tr wr) (gl : Gl X x := by rfl) (hdb : (x == ("__debug__" : Str)) = false := by decide) (he : starEach (e :: es) X.env = (false, eval e X.env) :: starEach es X.env := by rfl) (hpl : (backTo pos (starEach es X.env)).any (·.1) = false := by rfl) :
    PNd Z X (.Call (.Name x pn) (e :: es) [] pos) (tCallW (spG X.kw X.mg (wfX wf)) [] Z.W tr) (wCallX Z.x wf [] wr) := d_callX C.g hg hr tk hz C.m C.kp C.bd .nil (fun _ _ => .nil) ha gl hdb he hpl
theorem Cal.b {wf : WFB} (C : Cal X.prog X.w X.K X.mg X.base x k ps (wfB wf) f fd) (i : Nat) {y : Str} {py : Pos} (hg : X.A.guards = some []) (hr : Room k X.A) (ha : PAd Z X es tr wr)
    (hN : X.N[i]? = some y := by rfl) (hv : Vis X.env.scope y := by first | exact Or.inl rfl | exact Or.inr (Or.inl rfl) | exact Or.inr (Or.inr rfl)) (hd : (y == ("__debug__" : Str)) = false := by decide) (hcd : (y == ("__classdict__" : Str)) = false := by decide)
    (gl : Gl X x := by rfl) (hdb : (x == ("__debug__" : Str)) = false := by decide) (he : starEach (.Name y py :: es) X.env = (false, eval (.Name y py) X.env) :: starEach es X.env := by rfl) (hpl : (backTo pos (starEach es X.env)).any (·.1) = false := by rfl) :
    PEd Z X (.Call (.Name x pn) (.Name y py :: es) [] pos) (tCallW (spG X.kw X.mg (wfB wf)) [] (fun _ _ _ _ => False) (tCons (tVar i) tr)) (wCallB i wf wr) := by
  refine ⟨pe_callW C.g hg hr takesN0 gl C.m C.kp C.bd .nil (pa_cons (pe_var hN hv hd hcd) ha.p he) hdb he hpl, fun F G M σ H ρ R P hw Q kk => ?_⟩
  obtain ⟨⟨m, t, e⟩, hw⟩ := hw
  obtain ⟨v, fp, h1, h2, h3⟩ := R.r.own e
  refine ⟨v, h1, ?_⟩
  refine ha.i F G M σ H ρ R _ hw _ fun xs ρ1 vs M1 H1 R1 r1 ⟨m1, t1, e1, hm1, q⟩ => ?_
  show spG X.kw X.mg (wfB wf) ((v :: vs) ++ []) H1 Q _
  rw [List.append_nil]
  exact call_B R1 h1 e1 hm1 r1 q kk
theorem Cal.r {wf : WFR} (C : Cal X.prog X.w X.K X.mg X.base x k ps (wfR wf) f fd) (i : Nat) {y : Str} {py : Pos} (hg : X.A.guards = some []) (hr : Room k X.A) (tk : L2N.Takes X Z.W) (hz : Z.mg = X.mg) (ha : PAd Z X es tr wr)
    (hN : X.N[i]? = some y := by rfl) (hv : Vis X.env.scope y := by first | exact Or.inl rfl | exact Or.inr (Or.inl rfl) | exact Or.inr (Or.inr rfl)) (hd : (y == ("__debug__" : Str)) = false := by decide) (hcd : (y == ("__classdict__" : Str)) = false := by decide)
    (gl : Gl X x := by rfl) (hdb : (x == ("__debug__" : Str)) = false := by decide) (he : starEach (.Name y py :: es) X.env = (false, eval (.Name y py) X.env) :: starEach es X.env := by rfl) (hpl : (backTo pos (starEach es X.env)).any (·.1) = false := by rfl) :
    PNd Z X (.Call (.Name x pn) (.Name y py :: es) [] pos) (tCallW (spG X.kw X.mg (wfR wf)) [] Z.W (tCons (tVar i) tr)) (wCallR Z.x i wf [] wr) := by
  refine ⟨pe_callW C.g hg hr tk gl C.m C.kp C.bd .nil (pa_cons (pe_var hN hv hd hcd) ha.p he) hdb he hpl, fun F G M σ H ρ R P hw Q kk => ?_⟩
  obtain ⟨⟨m, t, e⟩, hw⟩ := hw
  obtain ⟨v, fp, h1, h2, h3⟩ := R.r.own e
  refine ⟨v, h1, ?_⟩
  refine ha.i F G M σ H ρ R _ hw _ fun xs ρ1 vs M1 H1 R1 r1 ⟨m1, t1, e1, q⟩ => ?_
  show spG X.kw X.mg (wfR wf) ((v :: vs) ++ []) H1 Q _
  rw [List.append_nil] at q ⊢
  exact call_R R1 h1 e1 r1 hz q kk
/-- values are held -/
theorem RepX.pushA {K : KW} {F : Frm} {M1 : MS} {H1 : Hp} {σ : L2.St} {ρ1 : DE} : ∀ (xs : List PyData) (vs : List V) {G : List (V × T)}, RpAll K M1 H1 vs xs → RepX Z K F G M1 H1 σ ρ1 → ∃ G', RepX Z K F (G' ++ G) M1 H1 σ ρ1 ∧ ∀ {M2 : MS} {H2 : Hp} {ρ2 : DE}, RepS K F (G' ++ G) M2 H2 σ ρ2 → RepS K F G M2 H2 σ ρ2 ∧ RpAll K M2 H2 vs xs := by
  intro xs
  induction xs with
  | nil => intro vs G r R; cases r; exact ⟨[], R, fun r => ⟨r, .nil⟩⟩
  | cons x xs ih =>
    intro vs G r R
    cases r with
    | cons r1 r2 =>
      obtain ⟨G', R', q'⟩ := ih _ (G := (_, .d x) :: G) r2 (R.push r1)
      exact ⟨G' ++ [(_, .d x)], by rw [List.append_assoc]; exact R', fun r => by
        rw [List.append_assoc] at r
        obtain ⟨z1, z2⟩ := q' r
        exact ⟨z1.pop, .cons z1.topD z2⟩⟩
theorem CalK.pk {wf : WF} (C : CalK X.prog X.w X.K X.mg X.base x k n ps ks dvs (wfP wf) f fd) (hg : X.A.guards = some []) (hr : Room k X.A) (ha : PAd Z X (e :: es) tr wr) (hkw : PKd Z X kws tk wk) {m : Nat} (hm : ks.length = m := by rfl) (gl : Gl X x := by rfl) (hall : (backToKw pos (keywordEach kws X.env)).all (·.1.isSome) = true := by rfl) (hks : (backToKw pos (keywordEach kws X.env)).filterMap (·.1) = ks := by rfl)
    (hdb : (x == ("__debug__" : Str)) = false := by decide) (he : starEach (e :: es) X.env = (false, eval e X.env) :: starEach es X.env := by rfl)
    (hpl : ((backTo pos (starEach (e :: es) X.env)).any (·.1) || (backToKw pos (keywordEach kws X.env)).any (·.1.isNone)) = false := by rfl) :
    PEd Z X (.Call (.Name x pn) (e :: es) kws pos) (tCallKW n m (spG X.kw X.mg (wfP wf)) (fun _ _ _ _ => False) tr tk) (wCallK n m wf wr wk) := by
  subst hm
  refine ⟨pe_callKW C.g hg hr takesN0 gl C.m C.kp C.kb ha.p hkw.p hall hks hdb he hpl, fun F G M σ H ρ R P hw Q kk => ?_⟩
  refine ha.i F G M σ H ρ R _ hw _ fun xs ρ1 vs M1 H1 R1 r1 q => ?_
  obtain ⟨G', R2, back⟩ := RepX.pushA xs vs r1 R1
  refine hkw.i F _ M1 σ H1 ρ1 R2 _ q _ fun ys ρ2 us M2 H2 R3 r3 ⟨l1, l2, q2⟩ => ?_
  obtain ⟨z1, z2⟩ := back R3.r
  exact ⟨by rw [r1.length]; exact l1, by rw [r3.length]; exact l2, call_P (R.to z1) (z2.append r3) q2 kk⟩
theorem CalK.lk {wf : WFL} (C : CalK X.prog X.w X.K X.mg X.base x k n ps ks dvs (wfL wf) f fd) (hg : X.A.guards = some []) (hr : Room k X.A) (ha : PAd Z X (e :: es) tr wr) (hkw : PKd Z X kws tk wk) {m : Nat} (hm : ks.length = m := by rfl) (gl : Gl X x := by rfl) (hall : (backToKw pos (keywordEach kws X.env)).all (·.1.isSome) = true := by rfl) (hks : (backToKw pos (keywordEach kws X.env)).filterMap (·.1) = ks := by rfl)
    (hdb : (x == ("__debug__" : Str)) = false := by decide) (he : starEach (e :: es) X.env = (false, eval e X.env) :: starEach es X.env := by rfl)
    (hpl : ((backTo pos (starEach (e :: es) X.env)).any (·.1) || (backToKw pos (keywordEach kws X.env)).any (·.1.isNone)) = false := by rfl) :
    PNd Z X (.Call (.Name x pn) (e :: es) kws pos) (tCallKW n m (spG X.kw X.mg (wfL wf)) (fun _ _ _ _ => False) tr tk) (wCallLK n m wf wr wk) := by
  subst hm
  refine ⟨pe_callKW C.g hg hr takesN0 gl C.m C.kp C.kb ha.p hkw.p hall hks hdb he hpl, fun F G M σ H ρ R P hw Q kk => ?_⟩
  refine ha.i F G M σ H ρ R _ hw _ fun xs ρ1 vs M1 H1 R1 r1 q => ?_
  obtain ⟨G', R2, back⟩ := RepX.pushA xs vs r1 R1
  refine hkw.i F _ M1 σ H1 ρ1 R2 _ q _ fun ys ρ2 us M2 H2 R3 r3 ⟨l1, l2, q2⟩ => ?_
  obtain ⟨z1, z2⟩ := back R3.r
  exact ⟨by rw [r1.length]; exact l1, by rw [r3.length]; exact l2, call_L (R.to z1) (z2.append r3) q2 kk⟩
theorem CalK.xk {wf : WFX} (C : CalK X.prog X.w X.K X.mg X.base x k n ps ks dvs (wfX wf) f fd) (hg : X.A.guards = some []) (hr : Room k X.A) (tk' : L2N.Takes X Z.W) (hz : Z.mg = X.mg) (ha : PAd Z X (e :: es) tr wr) (hkw : PKd Z X kws tk wk) {m : Nat} (hm : ks.length = m := by rfl) (gl : Gl X x := by rfl) (hall : (backToKw pos (keywordEach kws X.env)).all (·.1.isSome) = true := by rfl) (hks : (backToKw pos (keywordEach kws X.env)).filterMap (·.1) = ks := by rfl)
    (hdb : (x == ("__debug__" : Str)) = false := by decide) (he : starEach (e :: es) X.env = (false, eval e X.env) :: starEach es X.env := by rfl)
    (hpl : ((backTo pos (starEach (e :: es) X.env)).any (·.1) || (backToKw pos (keywordEach kws X.env)).any (·.1.isNone)) = false := by rfl) :
    PNd Z X (.Call (.Name x pn) (e :: es) kws pos) (tCallKW n m (spG X.kw X.mg (wfX wf)) Z.W tr tk) (wCallXK Z.x n m wf wr wk) := by
  subst hm
  refine ⟨pe_callKW C.g hg hr tk' gl C.m C.kp C.kb ha.p hkw.p hall hks hdb he hpl, fun F G M σ H ρ R P hw Q kk => ?_⟩
  refine ha.i F G M σ H ρ R _ hw _ fun xs ρ1 vs M1 H1 R1 r1 q => ?_
  obtain ⟨G', R2, back⟩ := RepX.pushA xs vs r1 R1
  refine hkw.i F _ M1 σ H1 ρ1 R2 _ q _ fun ys ρ2 us M2 H2 R3 r3 ⟨l1, l2, q2⟩ => ?_
  obtain ⟨z1, z2⟩ := back R3.r
  exact ⟨by rw [r1.length]; exact l1, by rw [r3.length]; exact l2, call_X (R.to z1) (z2.append r3) hz q2 kk⟩
theorem CalK.pd {wf : WF} {dds : List PyData} (C : CalK X.prog X.w X.K X.mg X.base x k n ps ks dvs (wfP wf) f fd) (hdd : ∀ M H, RpAll X.kw M H dvs dds) (hg : X.A.guards = some []) (hr : Room k X.A) (ha : PAd Z X (e :: es) tr wr) (gl : Gl X x := by rfl) (hdb : (x == ("__debug__" : Str)) = false := by decide) (he : starEach (e :: es) X.env = (false, eval e X.env) :: starEach es X.env := by rfl) (hpl : (backTo pos (starEach es X.env)).any (·.1) = false := by rfl) :
    PEd Z X (.Call (.Name x pn) (e :: es) [] pos) (tCallW (spG X.kw X.mg (wfP wf)) dvs (fun _ _ _ _ => False) tr) (wCall wf dds wr) := by
  obtain ⟨ds, h1, h2⟩ := C.dv
  exact d_callP C.g hg hr C.m C.kp h2 h1 hdd ha gl hdb he hpl
theorem CalK.ld {wf : WFL} {dds : List PyData} (C : CalK X.prog X.w X.K X.mg X.base x k n ps ks dvs (wfL wf) f fd) (hdd : ∀ M H, RpAll X.kw M H dvs dds) (hg : X.A.guards = some []) (hr : Room k X.A) (ha : PAd Z X (e :: es) tr wr) (gl : Gl X x := by rfl) (hdb : (x == ("__debug__" : Str)) = false := by decide) (he : starEach (e :: es) X.env = (false, eval e X.env) :: starEach es X.env := by rfl) (hpl : (backTo pos (starEach es X.env)).any (·.1) = false := by rfl) :
    PNd Z X (.Call (.Name x pn) (e :: es) [] pos) (tCallW (spG X.kw X.mg (wfL wf)) dvs (fun _ _ _ _ => False) tr) (wCallL wf dds wr) := by
  obtain ⟨ds, h1, h2⟩ := C.dv
  exact d_callL C.g hg hr C.m C.kp h2 h1 hdd ha gl hdb he hpl
theorem CalK.xd {wf : WFX} {dds : List PyData} (C : CalK X.prog X.w X.K X.mg X.base x k n ps ks dvs (wfX wf) f fd) (hdd : ∀ M H, RpAll X.kw M H dvs dds) (hg : X.A.guards = some []) (hr : Room k X.A) (tk' : L2N.Takes X Z.W) (hz : Z.mg = X.mg) (ha : PAd Z X (e :: es) tr wr) (gl : Gl X x := by rfl) (hdb : (x == ("__debug__" : Str)) = false := by decide) (he : starEach (e :: es) X.env = (false, eval e X.env) :: starEach es X.env := by rfl) (hpl : (backTo pos (starEach es X.env)).any (·.1) = false := by rfl) :
    PNd Z X (.Call (.Name x pn) (e :: es) [] pos) (tCallW (spG X.kw X.mg (wfX wf)) dvs Z.W tr) (wCallX Z.x wf dds wr) := by
  obtain ⟨ds, h1, h2⟩ := C.dv
  exact d_callX C.g hg hr tk' hz C.m C.kp h2 h1 hdd ha gl hdb he hpl
end
/-- keyword-only parameters that are given -/
theorem kbn_of {K : PySem.W.Frag} {x qual : Str} {params : Arguments} {body : List Stmt} {scope : Scope} {kws : List (Str × V)} {f : Addr} {fd : FuncData} {ps ks : List Str} {n : Nat} (F : FunD K x qual params body scope [] kws f fd)
    (h : ∀ (kV doc pm : Value) (an : Option Addr) (cdv ct : Value) (us ws : List Value), us.length = n → ws.length = ks.length → bindArgs (PySem.W.fnOf x qual params body scope .none kV doc pm an cdv ct) ⟨us, ks.zip ws⟩ = pure (ps.zip (us ++ ws))) : KBn K fd ps n ks (· ++ ·) (· ++ ·) := by
  obtain ⟨oc, od, dV, kV, doc, pm, an, cdv, ct, osl, rfl, lk, hcd, hD, hK⟩ := F.ex
  rcases hD with ⟨_, rfl⟩ | ⟨e, _⟩
  · exact ⟨fun s us ws _ h1 h2 => .of_eq (h kV doc pm an cdv ct us ws h1 h2), fun r1 r2 => r1.append r2⟩
  · exact absurd rfl e
/-! ### one's own trees may be looked at as data, where nothing of them is kept -/
def lendS : Option Sl → Option Sl
  | some (.o _ t) => t.data.map .d
  | s => s
def lendD (ρ : DE) : DE := ρ.map lendS
def wLend (we : WE) : WE := fun ρ P => we (lendD ρ) fun x _ => flatD x = true ∧ P x ρ
theorem rps_lend {K : KW} {F F' : Frm} {M : MS} {H : Hp} {σ : L2.St} {ρ : DE} {A : List Addr} (h : RpS K F M H σ ρ A) : RpS K F' (fun _ => False) H σ (lendD ρ) [] := by
  induction h with
  | nil => exact .nil
  | skip _ ih => exact .skip ih
  | @cons v s fp σ ρ A r _ ih =>
    cases r with
    | d r => exact .cons (.d (Rp.less (fun _ z => z.elim) _ _ r)) ih
    | o r _ =>
      rename_i m t _
      show RpS K F' (fun _ => False) H (some v :: σ) (t.data.map Sl.d :: lendD ρ) []
      cases e : t.data with
      | none => exact .skip ih
      | some x => exact .cons (.d (r.froze (fun _ z => z.elim) e fun _ _ z => z)) ih
section
variable {Z : XC} {K : KW} {X : Cx} {a b e : Expr} {ta tb te : TE} {wa wb we : WE} {mg : Str → Option Value} {pos : Pos}
theorem imp_lend (h : ImpE (Z0 mg) K te we) : ImpE Z K te (wLend we) := by
  intro F G M σ H ρ R P hw Q k
  obtain ⟨A, B, h1, _⟩ := R.r.rs
  have R' : RepS K ⟨fun _ => False, H, fun _ _ => False, fun _ => none⟩ [] (fun _ => False) H σ (lendD ρ) := ⟨⟨fun _ z => z, fun _ z => z.elim, fun _ _ z => z.elim, fun _ z => z.elim, fun _ z => z.elim, fun _ _ z _ => z⟩, [], [], rps_lend h1, .nil, fun _ z => (by cases z), List.nodup_nil⟩
  refine h _ _ _ σ H _ ⟨R', fun _ _ _ _ _ _ _ _ _ _ z => z.elim⟩ _ hw _ fun x ρ1 v M1 H1 R1 r1 ⟨hf, q⟩ => ?_
  have s : Same H H1 := fun a o z => R1.r.b.fr a o z fun _ z => z
  refine k x ρ v M H1 (R.same s) ?_ q
  cases r1 <;> first | exact .non | exact .bl _ | exact .int _ | exact .str _ | (simp [flatD] at hf)
theorem d_lend (h : PEd (Z0 mg) X e te we) : PEd Z X e te (wLend we) := ⟨h.p, imp_lend h.i⟩
theorem c_cmpL {op : CmpOp} {r : R2} {f : PyData → PyData → Option PyData} (ho : OpR X (compareOp op) r) (l : LiftR X.kw r f) (ha : PEd (Z0 mg) X a ta wa) (hb : PEd (Z0 mg) X b tb wb) (hm : behindInMarks op b = false) : PTd Z X (.Compare a [op] [b] pos) (tTest (tOp r ta tb)) (wTest (wLend (wBin f wa wb))) :=
  ⟨(c_cmp ho l ha hb hm).p, imp_test (imp_lend (imp_op l ha.i hb.i))⟩
end
theorem r80 {k : Nat} {A : Around} (r : Room k A) : A.units + 80 < cLine := by have := r.un; omega
abbrev fMax : List PyData → Option PyData := f2 (intF fun i j => some (.int (if j > i then j else i)))
abbrev fMin : List PyData → Option PyData := f2 (intF fun i j => some (.int (if j < i then j else i)))
end Dat
set_option Elab.async false
set_option linter.all false
set_option maxRecDepth 100000
set_option maxHeartbeats 4000000
namespace Dat
open PySem PySem.Spec PyProof.Rows L2
/-! ### the same, in the shape in which they are printed -/
structure PTsd (Z : XC) (X : Cx) (ifs : List Expr) (tt : TT) (wt : WT) : Prop where
  p : PTs X ifs tt
  i : ImpT Z X.kw tt wt
structure PGvd (X : Cx) (vs : List Nat) (tg : Expr) (g : TG) (wg : WG) : Prop where
  p : PG X tg g
  i : ImpGv X.kw vs g wg
structure PGsvd (X : Cx) (vs : List Nat) (es : List Expr) (g : TGs) (wg : WGs) : Prop where
  p : PGs X es g
  i : ImpGsv X.kw vs g wg
section
variable {Z : XC} {X : Cx} {tg elt iter e : Expr} {es : List Expr} {ifs : List Expr} {te : TE} {we : WE} {pos : Pos} {tt : TT} {wt : WT} {wi : TI} {wj : WI} {g : TG} {wg : WG} {gr : TGs} {wgr : WGs} {tk : TK} {wk : WK} {vs vs' : List Nat}
theorem ts_nil : PTsd Z X [] tYes wYes := ⟨pts_nil, imp_yes⟩
theorem ts_one (h : PTd Z X e tt wt) : PTsd Z X [e] tt wt := ⟨pts_one h.p, h.i⟩
theorem q_name {i : Nat} {x : Str} (hN : X.N.Nodup) (hm : i ∈ vs := by decide) (hi : X.N[i]? = some x := by rfl) (hx : Loc X.env.scope x := by first | exact Or.inl rfl | exact Or.inr rfl) (hf : X.fn x = true ∨ X.env.scope.names.lookup x = some .local := by first | exact .inl rfl | exact .inr rfl | assumption) : PGvd X vs (.Name x pos) (gName i) (wName i) := ⟨pg_name hN hi hx hf, v_name hm⟩
theorem qs_nil : PGsvd X vs [] gNil wgNil := ⟨pgs_nil, vs_nil⟩
theorem qs_cons (h1 : PGvd X vs e g wg) (h2 : PGsvd X vs es gr wgr) (hs : (assignEach (e :: es) X.env).map (·.2) = assign e X.env :: (assignEach es X.env).map (·.2) := by rfl) : PGsvd X vs (e :: es) (gCons g gr) (wgCons wg wgr) := ⟨pgs_cons h1.p h2.p hs, vs_cons h1.i h2.i⟩
theorem q_tup {k n : Nat} (h : PGsvd X vs es gr wgr) (hc : X.calm = true := by rfl) (hn : (assignEach es X.env).length = n := by rfl) (hst : (assignEach es X.env).findIdx? (·.1) = none := by rfl) : PGvd X vs (.Tuple es k pos) (gTup X.K n gr) (wgTup n wgr) := ⟨pg_tup hc h.p hn hst, v_tup h.i⟩
theorem k_clause {Y : Cx} {el : Expr} {gl : List Comprehension} {sl : Scope} {pl : Pos} {k : Nat} {yes : Env → Value → Sem Fin → Sem Fin} (vs : List Nat) (hT : TurnsAs (.ListComp el gl sl pl) k tg iter ifs yes) (pi : PId Z Y tg iter wi wj) (pg : PGvd Y vs tg g wg)
    (pt : PTsd Z Y ifs tt wt) (pa : PKt Z Y yes vs' tk wk) (hS : StartsAs (.ListComp el gl sl pl) k := by exact starts_of rfl rfl) (hv : ∀ j ∈ vs', j ∈ vs := by decide) (hx : Y.xe = fun _ _ => False := by rfl) (hc : Y.calm = true := by rfl) (hs : ∀ x, foldedSetIterable iter Y.env x = pure x := by intro _; rfl) : PKt Z Y (midG (.ListComp el gl sl pl) k iter) vs (kCl wi g tt tk vs) (wkCl wj wg wt wk vs) :=
  kt_cl vs hT hS pi pg.p pg.i pt.p pt.i pa hv hx hc hs
theorem d_comp {g : BF TG} {tt : BF TT} {tk : BF TK} {gs : List Comprehension} {scope : Scope} {yes : Env → Value → Sem Fin → Sem Fin} (own : List (Str × Nat)) (hN : X.N.Nodup) (ok : BlkOk X.N X.env.scope scope own) (hT : TurnsAs (.ListComp elt (⟨tg, iter, ifs, 0⟩ :: gs) scope pos) 0 tg iter ifs yes) (hi : PId Z X tg iter wi wj)
    (hg : ∀ (s : Shared) (H : Hp) (C : Addr) (cl : List (Str × Addr)) (fp : List Addr), PGvd (X.blk s H scope (compEnvC scope cl C X.env) fp) (own.map (·.2)) tg (g s H C cl fp) wg)
    (ht : ∀ (s : Shared) (H : Hp) (C : Addr) (cl : List (Str × Addr)) (fp : List Addr), PTsd Z (X.blk s H scope (compEnvC scope cl C X.env) fp) ifs (tt s H C cl fp) wt)
    (ha : ∀ (s : Shared) (H : Hp) (C : Addr) (cl : List (Str × Addr)) (fp : List Addr), PKt Z (X.blk s H scope (compEnvC scope cl C X.env) fp) yes vs' (tk s H C cl fp) wk) (hv : ∀ j ∈ vs', j ∈ own.map (·.2) := by decide) (hc : X.calm = true := by rfl) (hs : ∀ x, foldedSetIterable iter X.env x = pure x := by intro _; rfl) :
    PNd Z X (.ListComp elt (⟨tg, iter, ifs, 0⟩ :: gs) scope pos) (tLcN wi g tt tk (own.map (·.2))) (wLcN wj wg wt wk (own.map (·.2))) :=
  d_lcN hN hi ok hT (fun s H C cl fp => (hg s H C cl fp).p) (fun s H C cl fp => (hg s H C cl fp).i) (fun s H C cl fp => (ht s H C cl fp).p) (fun s H C cl fp => (ht s H C cl fp).i) ha hv hc hs
end

/-! ### two at once -/
section
variable {Z : XC} {K : KW} {X : Cx} {a b c e : Expr} {es : List Expr} {ta tb tc te : TE} {wa wb wc we : WE} {na nb : WN} {pos : Pos}
def wParN (i j : Nat) (na nb : WN) : WS := fun E ρ => na ρ fun x ρ1 => nb ρ1 fun y ρ2 => E.nx ((ρ2.set i (some (slotOf x))).set j (some (slotOf y)))
theorem s_parN {i j : Nat} {x y : Str} {px py pt : Pos} {kt k2 pt2} (hN : X.N.Nodup) (ha : PNd Z X a ta na) (hb : PNd Z X b tb nb) (hij : i ≠ j := by decide) (hc : X.calm = true := by rfl) (hi : X.N[i]? = some x := by rfl) (hj : X.N[j]? = some y := by rfl)
    (hx : X.env.scope.names.lookup x = some .local := by rfl) (hy : X.env.scope.names.lookup y = some .local := by rfl) (he1 : starEach [a, b] X.env = (false, eval a X.env) :: starEach [b] X.env := by rfl) (he2 : starEach [b] X.env = (false, eval b X.env) :: starEach [] X.env := by rfl)
    (hw : swappedStores [.Tuple [.Name x px, .Name y py] kt pt] (.Tuple [a, b] k2 pt2) X.env = pure (some [x, y]) := by rfl)
    (hs : swapsWithSole [.Tuple [.Name x px, .Name y py] kt pt] (.Tuple [a, b] k2 pt2) pos.line X.env = pure false := by rfl) :
    PSd Z X (.Assign [.Tuple [.Name x px, .Name y py] kt pt] (.Tuple [a, b] k2 pt2) pos) (tPar i j (tCons ta (tCons tb tNil))) (wParN i j na nb) := by
  refine ⟨ps_par hc hN hi hj hij hx hy (pa_cons ha.p (pa_cons hb.p pa_nil he2) he1) hw hs, fun F G M σ H ρ R E hq D cn => ?_⟩
  refine ha.i F G M σ H ρ R _ hq _ fun x ρ1 v M1 H1 R1 q1 => ?_
  refine hb.i F _ M1 σ H1 ρ1 R1 _ q1 _ fun y ρ2 u M2 H2 R2 q2 => ?_
  exact ⟨_, _, rfl, cn.nx _ M2 _ H2 ((R2.r.exch.takeS i).takeS j) q2⟩
/-- the same by way of a tuple (a name that a block below looks at) -/
theorem s_tupN {i j : Nat} {x y : Str} {px py pt : Pos} {kt k2 pt2} (hN : X.N.Nodup) (ha : PNd Z X a ta na) (hb : PNd Z X b tb nb) (hc : X.calm = true := by rfl) (hi : X.N[i]? = some x := by rfl) (hj : X.N[j]? = some y := by rfl)
    (hx : Loc X.env.scope x := by first | exact Or.inl rfl | exact Or.inr rfl) (hy : Loc X.env.scope y := by first | exact Or.inl rfl | exact Or.inr rfl) (hfx : X.fn x = true ∨ X.env.scope.names.lookup x = some .local := by first | exact .inl rfl | exact .inr rfl) (hfy : X.fn y = true ∨ X.env.scope.names.lookup y = some .local := by first | exact .inl rfl | exact .inr rfl)
    (he1 : starEach [a, b] X.env = (false, eval a X.env) :: starEach [b] X.env := by rfl) (he2 : starEach [b] X.env = (false, eval b X.env) :: starEach [] X.env := by rfl)
    (hw : swappedStores [.Tuple [.Name x px, .Name y py] kt pt] (.Tuple [a, b] k2 pt2) X.env = pure none := by rfl)
    (hs : swapsWithSole [.Tuple [.Name x px, .Name y py] kt pt] (.Tuple [a, b] k2 pt2) pos.line X.env = pure false := by rfl)
    (h1 : (assignEach [.Tuple [.Name x px, .Name y py] kt pt] X.env).map (·.2) = [assign (.Tuple [.Name x px, .Name y py] kt pt) X.env] := by rfl) (hn : (assignEach [.Name x px, .Name y py] X.env).length = 2 := by rfl) (hst : (assignEach [.Name x px, .Name y py] X.env).findIdx? (·.1) = none := by rfl)
    (hs1 : (assignEach [.Name x px, .Name y py] X.env).map (·.2) = assign (.Name x px) X.env :: (assignEach [.Name y py] X.env).map (·.2) := by rfl) (hs2 : (assignEach [.Name y py] X.env).map (·.2) = assign (.Name y py) X.env :: (assignEach [] X.env).map (·.2) := by rfl) :
    PSd Z X (.Assign [.Tuple [.Name x px, .Name y py] kt pt] (.Tuple [a, b] k2 pt2) pos) (tAsg (tTup (tCons ta (tCons tb tNil))) (gTup X.K 2 (gCons (gName i) (gCons (gName j) gNil)))) (wParN i j na nb) := by
  refine ⟨ps_asg (pe_tup (pa_cons ha.p (pa_cons hb.p pa_nil he2) he1)) (pg_tup hc (pgs_cons (pg_name hN hi hx hfx) (pgs_cons (pg_name hN hj hy hfy) pgs_nil hs2) hs1) hn hst) hs hw h1, fun F G M σ H ρ R E hq D cn => ?_⟩
  refine ha.i F G M σ H ρ R _ hq _ fun x ρ1 v M1 H1 R1 q1 => ?_
  refine hb.i F _ M1 σ H1 ρ1 R1 _ q1 _ fun y ρ2 u M2 H2 R2 q2 => ?_
  refine ⟨by show (2 : Nat) ≤ sizeLine; decide, fun l hl => ⟨l, _, rfl, .inl (.inl upd_same), rfl, _, _, rfl, _, _, rfl, rfl, ?_⟩⟩
  have sm := same_new (o := .tup [v, u]) hl
  exact cn.nx _ M2 _ _ (((R2.r.same sm).exch.takeS i).takeS j) q2
/-! ### sets of tuples of ints -/
def intsL : List PyData → Option (List Int)
  | [] => some []
  | .int i :: r => (intsL r).map (i :: ·)
  | _ => none
def intsD : PyData → Option (List Int)
  | .tuple xs => intsL xs
  | _ => none
theorem intsL_rp {M : MS} {H : Hp} : ∀ {ds : List PyData} {vs : List V} {is : List Int}, RpAll K M H vs ds → intsL ds = some is → vs = is.map V.int
  | [], _, _, .nil, e => by cases e; rfl
  | x :: ds, _, is, .cons r t, e => by
    cases r with
    | int i =>
      simp only [intsL] at e
      obtain ⟨zs, e1, e2⟩ := Option.map_eq_some_iff.mp e
      subst e2
      rw [intsL_rp t e1]
      rfl
    | _ => simp [intsL] at e
theorem intsD_rp {M : MS} {H : Hp} {x : PyData} {v : V} {is : List Int} (r : Rp K M H v x) (e : intsD x = some is) : ∃ p, v = .ref p ∧ SqT K H p (is.map V.int) := by
  cases r with
  | tup q a =>
    have := intsL_rp a e
    subst this
    exact ⟨_, rfl, q⟩
  | _ => simp [intsD] at e
def wSetN : WN := fun ρ P => P (.s []) ρ
theorem n_set {p : Pos} (hm : X.mg "set" = none) (hg : Gl X "set" := by rfl) : PNd Z X (.Call (.Name "set" p) [] [] pos) (tCB SB.rSetN tNil) wSetN := by
  refine ⟨pe_callTy0 SB.cr_setN hg hm (by decide +kernel), fun F G M σ H ρ R P hw Q k => ⟨rfl, fun p hp => ?_⟩⟩
  exact k _ ρ _ _ _ (R.up (R.r.new hp trivial (.s (.inr rfl) ⟨[], upd_same, fun q hq => (by cases hq), .refl _⟩))) hw
theorem RepS.set {F : Frm} {G : List (V × T)} {M : MS} {H : Hp} {σ : L2.St} {ρ : DE} (R : RepS K F G M H σ ρ) {k : Nat} {m : Md} {ks : List (List Int)} (e : ρ[k]? = some (some (.o m (.s ks)))) : ∃ p, σ[k]? = some (some (.ref p)) ∧ SetAt K H p ks := by
  obtain ⟨v, fp, h1, h2, h3⟩ := R.own e
  cases h2 with
  | s hm q => exact ⟨_, h1, q⟩
def wInS (k : Nat) (we : WE) : WE := fun ρ P => we ρ fun x ρ1 => ∃ m ks is, ρ1[k]? = some (some (.o m (.s ks))) ∧ intsD x = some is ∧ P (.bool (decide (is ∈ ks))) ρ1
theorem imp_inS (k : Nat) (h : ImpE Z K te we) : ImpE Z K (tOp (SB.rInT K) te (tVar k)) (wInS k we) := by
  intro F G M σ H ρ R P hw Q kk
  refine h F G M σ H ρ R _ hw _ fun x ρ1 v M1 H1 R1 r1 ⟨m, ks, is, e, ei, q⟩ => ?_
  obtain ⟨p, h1, L, h2, h3, h4⟩ := R1.r.set e
  obtain ⟨b, rfl, hb⟩ := intsD_rp r1 ei
  refine ⟨.ref p, h1, b, p, is, L, rfl, rfl, hb, h2, h3, ?_⟩
  have : decide (is ∈ L.map (·.2)) = decide (is ∈ ks) := by
    have := h4.mem_iff (a := is)
    by_cases z : is ∈ ks
    · rw [decide_eq_true z, decide_eq_true (this.mpr z)]
    · rw [decide_eq_false z, decide_eq_false (fun y => z (this.mp y))]
  rw [this]
  exact kk _ ρ1 _ M1 H1 R1 (.bl _) q
theorem c_inS (k : Nat) {y : Str} {py : Pos} (hu : X.A.units + 20 < cLine) (h : PEd Z X e te we) (hN : X.N[k]? = some y := by rfl) (hv : Vis X.env.scope y := by first | exact Or.inl rfl | exact Or.inr (Or.inl rfl) | exact Or.inr (Or.inr rfl)) (hd : (y == ("__debug__" : Str)) = false := by decide) (hcd : (y == ("__classdict__" : Str)) = false := by decide) (hm : behindInMarks .In (.Name y py) = false := by rfl) :
    PTd Z X (.Compare e [.In] [.Name y py] pos) (tTest (tOp (SB.rInT X.K) te (tVar k))) (wTest (wInS k we)) := ⟨pt_cmpR (SB.op_inT hu) h.p (pe_var hN hv hd hcd) hm, imp_test (imp_inS k h.i)⟩
/-- s.add(x) -/
def wAddS (k : Nat) (we : WE) : WS := fun E ρ => (∃ b ks, ρ[k]? = some (some (.o b (.s ks)))) ∧ we ρ fun x ρ1 => ∃ b ks is, ρ1[k]? = some (some (.o b (.s ks))) ∧ b.may = true ∧ intsD x = some is ∧ ks.length < 300 ∧ E.nx (ρ1.set k (some (.o b (.s (if is ∈ ks then ks else is :: ks)))))
theorem s_addS (k : Nat) {x : Str} {p ap cp : Pos} (hu : X.A.units + 20 < cLine) (he : PEd Z X e te we) (hN : X.N[k]? = some x := by rfl) (hv : Vis X.env.scope x := by first | exact Or.inl rfl | exact Or.inr (Or.inl rfl) | exact Or.inr (Or.inr rfl)) (hd : (x == ("__debug__" : Str)) = false := by decide) (hcd : (x == ("__classdict__" : Str)) = false := by decide)
    (hbase : attributeBase (.Name x p) "add" X.env (eval (.Name x p) X.env) = eval (.Name x p) X.env := by rfl)
    (hfew : ((backTo cp (starEach [e] X.env)).all (fun x => !x.1) && (backToKw cp (keywordEach [] X.env)).all (fun x => x.1.isSome)
      && decide ([e].length + ([] : List Keyword).length + (if ([] : List Keyword).isEmpty then 0 else 1) < 30)) = true := by rfl)
    (hline : (ap.endLine == cp.line) = true := by rfl) (hs : starEach [e] X.env = (false, eval e X.env) :: starEach [] X.env := by rfl) (hpl : (backTo cp (starEach [] X.env)).any (·.1) = false := by rfl) (hsw : swapsWith (.Call (.Attribute (.Name x p) "add" ap) [e] [] cp) none pos.line X.env = pure false := by rfl) :
    PSd Z X (.Expr (.Call (.Attribute (.Name x p) "add" ap) [e] [] cp) pos) (tDrop (SB.tAddT X.K (tVar k) (tCons te tNil))) (wAddS k we) := by
  refine ⟨ps_expr (SB.pe_addT hu (pe_var hN hv hd hcd) (pa_cons he.p pa_nil hs) hbase hfew hline hs hpl) hsw, fun F G M σ H ρ R E hw D cn => ?_⟩
  obtain ⟨⟨b0, ks0, e0⟩, hw⟩ := hw
  obtain ⟨p0, h1, L0, h2, h3, h4⟩ := R.r.set e0
  refine ⟨.ref p0, h1, ⟨p0, L0, rfl, h2⟩, ?_⟩
  refine he.i F G M σ H ρ R _ hw _ fun y ρ1 v M1 H1 R1 r1 ⟨b1, ks1, is, e1, hb, ei, hl, q⟩ => ?_
  obtain ⟨p1, z1, L1, z2, z3, z4⟩ := R1.r.set e1
  rw [h1] at z1
  cases z1
  obtain ⟨b, rfl, hbt⟩ := intsD_rp r1 ei
  refine ⟨b, p0, is, L1, rfl, rfl, hbt, z2, z3, by rw [← List.length_map (f := (·.2)), z4.length_eq]; exact hl, fun L' c1 c2 => ?_⟩
  obtain ⟨p2, y1, hM, y2, y3⟩ := R1.r.wr1 e1 hb fun v fp r => by cases r with | s _ _ => exact ⟨_, rfl, rfl⟩
  rw [h1] at y1
  cases y1
  refine cn.nx _ M1 σ _ (y3 (SB.SetO p0 L') _ trivial fun g => .s hM ⟨L', upd_same, ?_, ?_⟩) q
  · intro r hr
    by_cases z : is ∈ L1.map (·.2)
    · rw [c1 z] at hr
      exact SqT.stp R1.ml g (z3 r hr)
    · rcases List.mem_cons.mp ((c2 z).mem_iff.mp hr) with rfl | hr
      · exact SqT.stp R1.ml g hbt
      · exact SqT.stp R1.ml g (z3 r hr)
  · by_cases z : is ∈ ks1
    · rw [if_pos z, c1 (z4.mem_iff.mpr z)]
      exact z4
    · rw [if_neg z]
      have c := (c2 fun y => z (z4.mem_iff.mp y)).map (·.2)
      rw [List.map_cons] at c
      exact c.trans (List.Perm.cons is z4)
end
/-! ### the law's own end -/
theorem lawG {P : Program} {w : World} {K : PySem.W.Frag} {mg mb : Str → Option Value} {k : Nat} {fa a : Addr} {fd : FuncData} {x : Str} {wf : WF} {s1 : Shared} {vs : List Value} {ns : List Int}
    (KX : K.In s1.heap) (hns : s1.heap.Ns mainGlobals mg) (hb : s1.heap.Ns builtinsNs mb) (hbb : ∀ x : Str, x ≠ "__name__" → mb x = bootBuiltins x) (hlim : s1.heap.NoLimit) (hg : s1.gens = #[])
    (ha : s1.heap.get? a = some { cls := .type "list", data := .seq vs.toArray }) (hi : IntsAre vs ns) (hl : ns.length ≤ sizeLine) (hr : Room k callerA)
    (F : ∀ base : Heap, K.In base → base.Ns mainGlobals mg → FnG P w K mg base k fa fd [x] (spG ⟨K, P, w⟩ mg (wfP wf))) (hbind : ∀ (s : Shared) (u : Value), BindsTo s fd ⟨[u], []⟩ [(x, u)])
    (hw : wf [scrD ns] fun z => z = .bool true) :
    codeAny (model P w) callerA (.call (.ref fa) ⟨[.ref a], []⟩) (fun r s' => r = .ok (.ret (.bool true)) ∧ OldK s1.heap s'.heap ∧ s'.os = s1.os ∧ AllBare s'.gens) s1 := by
  have rv := vals_ints hi
  have go : ∀ H : Hp, (∀ b, H b = none ∨ (b = a ∧ ∃ xs, H b = some (.frz { cls := .type "list", data := .seq vs.toArray } (.lst xs)))) → (H a ≠ none → K.lookup a = none) → HOk P w H s1.heap → Rp (⟨K, P, w⟩ : KW) (fun _ => False) H (.ref a) (scrD ns) →
      codeAny (model P w) callerA (.call (.ref fa) ⟨[.ref a], []⟩) (fun r s' => r = .ok (.ret (.bool true)) ∧ OldK s1.heap s'.heap ∧ s'.os = s1.os ∧ AllBare s'.gens) s1 := by
    intro H only hK hok rp
    have free : ∀ {b : Addr} {o : Obj}, s1.heap.get? b = some o → (∀ xs n, o.data ≠ .seq xs n) → H b = none := fun {b o} e d => by
      rcases only b with z | ⟨z, _⟩
      · exact z
      · subst z
        rw [ha] at e
        cases e
        exact absurd rfl (d _ _)
    have ns' : ∀ {b : Addr} {m : Str → Option Value}, s1.heap.Ns b m → (hidT s1.heap H).Ns b m := fun {b m} ⟨o, es, ep, e, d, r⟩ => ⟨o, es, ep, hidT_get e (free e fun xs n z => by rw [d] at z; cases z), d, r⟩
    have kb : K.In (hidT s1.heap H) := fun b o e => hidT_get (KX b o e) (by
      rcases only b with z | ⟨z, ⟨xs, z2⟩⟩
      · exact z
      · subst z
        rw [hK (by rw [z2]; simp)] at e
        cases e)
    have md : Mod K mg (hidT s1.heap H) := ⟨kb, ns' hns, ⟨mb, ns' hb, hbb⟩, let ⟨mc, h1, h2⟩ := hlim; ⟨mc, ns' h1, h2⟩⟩
    have e0 : Env0 P w K mg (hidT s1.heap H) callerA [] s1 H := ⟨rfl, md, fun b o e => of_hidT e, Nat.le_of_eq (hidT_size _ _), trivial, fun b hb => absurd hb (by simp [frs]), hok, .of_eq hg⟩
    refine codeAny_mono ((F _ kb (ns' hns)).run callerA [] s1 H ⟨[.ref a], []⟩ [.ref a] [.ref a] (fun v _ => v = .bl true) (fun _ _ _ => False) rfl hr e0 (hbind s1 (.ref a)) (.cons rfl .nil)
      ⟨fun _ => False, [.d (scrD ns)], [], [], fun t _ => t = .d (.bool true), fun _ _ => False, fun _ z => z.elim, .d rp .nil, List.nodup_nil, ⟨[scrD ns], rfl, by
        have e : (fun z => T.d z = T.d (.bool true)) = fun z => z = PyData.bool true := by funext z; exact propext ⟨fun q => by cases q; rfl, fun q => by rw [q]⟩
        show wf [scrD ns] (fun z => T.d z = T.d (.bool true))
        rw [e]
        exact hw⟩, fun tr ts v H' fr fl _ _ _ r _ _ q => by
          subst q
          cases r with
          | d r => cases r; rfl, fun _ _ _ _ _ _ _ _ _ _ _ _ z => z.elim⟩) fun r s' h => ?_
    match r, h with
    | .ok (.ret u), h =>
      obtain ⟨v, H', os, bare, un, hok', r', q⟩ := h
      have q' : v = .bl true := q
      subst q'
      have r'' : u = Value.bool true := r'
      subst r''
      refine ⟨rfl, OldK.of_keep fun b o e => ?_, os, bare⟩
      rcases only b with z | ⟨_, xs, z⟩
      · exact un.keep b o e z (by simp [frs]) (by simp)
      · obtain ⟨e1, _⟩ := hok b _ z
        obtain ⟨e2, _⟩ := hok' b _ (un.frzs b _ _ z)
        rw [e] at e1
        cases e1
        exact e2
    | .ok .next, h => exact False.elim h
    | .ok .brk, h => exact False.elim h
    | .ok .cont, h => exact False.elim h
    | .error e, h => exact absurd h (fun z => by obtain ⟨_, _, _, _, _, _, _, _, _, _, _, _, z⟩ := z; exact z)
  cases hk : K.lookup a with
  | some o =>
    have e := KX a o hk
    rw [ha] at e
    cases e
    refine go (fun _ => none) (fun _ => .inl rfl) (fun z => absurd rfl z) (fun b u z => by cases z) (.scr rfl (.inr fun H' => .inr ⟨_, vs.toArray, _, hk, rfl, rfl, rfl, ?_, by simpa using rv⟩))
    rw [List.size_toArray, hi.length]
    exact hl
  | none =>
    refine go (fun b => if b = a then some (.frz { cls := .type "list", data := .seq vs.toArray } (.lst (ns.map V.int))) else none) (fun b => ?_) (fun _ => hk) (fun b u z => ?_) (.scr rfl (.inl ⟨id, .inr ⟨_, if_pos rfl⟩⟩))
    · by_cases hb : b = a
      · exact .inr ⟨hb, _, if_pos hb⟩
      · exact .inl (if_neg hb)
    · by_cases hb : b = a
      · have z' := (if_pos hb).symm.trans z
        cases z'
        subst hb
        exact ⟨ha, by rw [List.length_map]; exact hl, vs, _, rv, ha⟩
      · have z' := (if_neg hb).symm.trans z
        cases z'
theorem walkGE {l : PySem.W.OpenLaw} {n k : Nat} {q : Program} {loose : List Str} {XP : (Str → Option Value) → Heap → Prop} {YP : World → Heap → Prop} {d : DefRec} {wf : WF} {x : Str}
    (hn : l.most = some n) (hn2 : n ≤ sizeLine) (hdf : d.params.defaults = []) (hr : Room k callerA)
    (F : ∀ (w : World) (mg : Str → Option Value) (fa : Addr) (h : Heap), YP w h → h.Ns mainGlobals mg → mg d.name = some (.ref fa) →
      ∃ (K : PySem.W.Frag) (fd : FuncData), K.In h ∧ (∀ (s : Shared) (u : Value), BindsTo s fd ⟨[u], []⟩ [(x, u)]) ∧ ∀ base : Heap, K.In base → base.Ns mainGlobals mg → FnG l.prog w K mg base k fa fd [x] (spG ⟨K, l.prog, w⟩ mg (wfP wf)))
    (hw : ∀ ns : List Int, ns.length ≤ n → wf [scrD ns] fun z => z = .bool true) : PySem.W.WalkO q loose XP YP l.row.toRowW d [] (fun f vs => PySem.call f vs) := by
  refine Att.attach_call hn hdf fun w s0 s1 mg mb fa o pm cd doc a vs ns G Y ho hd hcd hmg hobj hints hlen hg => ?_
  obtain ⟨K, fd, KX, hb, hF⟩ := F w mg fa _ Y G.T.g hmg
  exact lawG KX G.T.g G.T.b G.T.builtins G.T.nolimit hg hobj hints (Nat.le_trans hlen hn2) hr hF hb (hw ns hlen)
end Dat
set_option Elab.async false
set_option linter.all false
set_option maxRecDepth 100000
set_option maxHeartbeats 4000000
namespace Dat
open PySem PySem.Spec PyProof.Rows L2
section
variable {Z : XC} {K : KW} {X : Cx} {st : Stmt} {t : TS} {w : WS}
/-- slots are forgotten ahead of a statement -/
def wPre (is : List Nat) (w : WS) : WS := fun E ρ => w E (forgetD ρ is)
theorem s_pre (is : List Nat) (h : PSd Z X st t w) : PSd Z X st t (wPre is w) := ⟨h.p, fun F G M σ H ρ R E hw D cn => h.i F G M σ H _ (R.to (R.r.forgets is)) E hw D cn⟩
end
theorem r20 {k : Nat} {A : Around} (r : Room k A) : A.units + 20 < cLine := by have := r.un; omega
/-- a, b, .. = a list -/
def wgLst (n : Nat) (wg : WGs) : WG := fun x ρ P => ∃ xs, x = .list xs ∧ xs.length = n ∧ wg xs ρ P
section
variable {X : Cx} {es : List Expr} {pos : Pos}
theorem g_lst {k : Nat} {g : TGs} {wg : WGs} {n : Nat} (hc : X.calm = true) (h : PGsd X es g wg)
    (hn : (assignEach es X.env).length = n := by rfl) (hst : (assignEach es X.env).findIdx? (·.1) = none := by rfl) : PGd X (.Tuple es k pos) (gLst X.K n g) (wgLst n wg) := by
  refine ⟨pg_lst hc h.p hn hst, fun F G M σ H ρ R x v r P hp Q kk => ?_⟩
  obtain ⟨xs, e, hl, hp⟩ := hp
  subst e
  cases r with
  | lst n1 e1 h1 => exact ⟨_, _, rfl, SqL.of e1, by rw [h1.length]; exact hl, h.i F G M σ H ρ R xs _ h1 P hp Q kk⟩
end
end Dat
set_option Elab.async false
set_option linter.all false
set_option maxRecDepth 100000
set_option maxHeartbeats 4000000
/-! enumerate of a tuple, of data. -/
namespace PySem
open Sem (wp)
set_option maxHeartbeats 1000000 in
theorem meets_enumNew1 {v : Value} {o : Obj} {H : Heap → Prop} (B : Begins v o H) :
    Meets (Builtin.«enumerate.__new__» ⟨[.type "enumerate", v], []⟩) (fun _ R s => H s.heap ∧
      R (.ok (.ret (.ref (s.heap.push o).objs.size))) { s with heap := (s.heap.push o).push { cls := .type "enumerate", data := .fields #[.none, .bool false, .ref s.heap.objs.size, rawInt 0, .none, .none] } }) :=
  .of_wp fun prog w A R s h => by
    obtain ⟨hp, g, d, tk, os⟩ := s; obtain ⟨h1, h⟩ := h
    have hsub := sub_enumerate
    have q1 : ∀ {A' : Around} {E : Value → Shared → Prop} {Q : Value → Shared → Prop}, Q (.ref hp.objs.size) ⟨hp.push o, g, d, tk, os⟩ → wpAny (model prog w) A' (pyIter v) Q E ⟨hp, g, d, tk, os⟩ :=
      fun q => B.iter prog w _ _ ⟨hp, g, d, tk, os⟩ _ h1 q
    wp_walk using q1
    refine wpAny_stack_any fun st => wpAny_pure ?_
    split
    · rename_i c _ _ _ _ _
      cases (c == Value.type "enumerate")
      · wp_walk using q1
        exact ⟨_, rfl, h⟩
      · wp_walk using q1
        exact ⟨_, rfl, h⟩
    · wp_walk using q1
      exact ⟨_, rfl, h⟩
theorem enum_new1 {prog : Program} {w : World} {A : Around} {E : Value → Shared → Prop} {s : Shared} {v : Value} {o : Obj} {H : Heap → Prop} {Q : Value → Shared → Prop} (B : Begins v o H) (h1 : H s.heap)
    (h : ∀ h', IsEnum h' (s.heap.objs.size + 1) s.heap.objs.size 0 .none → h'.get? s.heap.objs.size = some o → h'.objs.size = s.heap.objs.size + 2 →
      (∀ b o, s.heap.get? b = some o → h'.get? b = some o) → Q (.ref (s.heap.objs.size + 1)) { s with heap := h' }) :
    wpAny (model prog w) A (call (.type "enumerate") [v]) Q E s := by
  refine callType_new F.called_enumerate (by decide) (F.typeCall_enumerate_1 _) (F.newCall_enumerate_1 _) (fun obj => F.args_object_init_2 obj _) F.entry_enumerate_new
    (meets_enumNew1 B) ⟨h1, ?_⟩
  have hz : (s.heap.push o).objs.size = s.heap.objs.size + 1 := Heap.size_push ..
  show _ ∧ _
  rw [hz]
  have he : IsEnum ((s.heap.push o).push { cls := .type "enumerate", data := .fields #[.none, .bool false, .ref s.heap.objs.size, rawInt 0, .none, .none] }) (s.heap.objs.size + 1) s.heap.objs.size 0 .none := by
    have := Heap.get?_push_size (s.heap.push o) (o := { cls := .type "enumerate", data := .fields #[.none, .bool false, .ref s.heap.objs.size, rawInt 0, .none, .none] }) rfl
    rw [hz] at this; exact this
  refine ⟨⟨_, he, rfl⟩, h _ he (Heap.get?_push_of_some _ (Heap.get?_push_size _ B.free)) (by rw [Heap.size_push, hz]) fun b o x => Heap.get?_push_of_some _ (Heap.get?_push_of_some _ x)⟩
end PySem
namespace Dat
open PySem PySem.Spec PyProof.Rows L2
def IteT (K : PySem.W.Frag) (a : Addr) : It :=
  ⟨fun i H => ∃ (xs : List V) (x : V), SqT K H a xs ∧ xs[i]? = some x, fun i H v H' => ∃ T x, v = .ref T ∧ H T = none ∧ H' = upd H T (.tup [.int (i : Nat), x]) ∧ ∀ xs, SqT K H a xs → xs[i]? = some x, fun i H => ∃ xs : List V, SqT K H a xs ∧ xs.length = i⟩
theorem turn_enumT {P : Program} {w : World} {K : PySem.W.Frag} {elts : List Expr} {kk : Nat} {tpos : Pos} (a e it : Addr) (hat : a ≠ it) (hae : a ≠ e) :
    Turn P w K (.Tuple elts kk tpos) (IteT K a) [e, it] e (fun i h => (∃ old, IsEnum h e it ((i : Nat) : Int) old) ∧ h.IsTupleIter it a i ∧ e ≠ it) where
  mem := by simp
  obj := fun i h st b hb => by
    obtain ⟨⟨old, he⟩, ⟨o, ho, hc, hd⟩, _⟩ := st
    have e' : b = e ∨ b = it := by simpa using hb
    rcases e' with z | z
    · rw [z]; exact ⟨_, he, fun v q => nomatch q⟩
    · rw [z]; exact ⟨o, ho, fun v q => by rw [hd] at q; cases q⟩
  keep := fun i h h' st k => let ⟨⟨old, he⟩, hi, hne⟩ := st; ⟨⟨old, k e (by simp) _ he⟩, hi.at fun o q => k it (by simp) o q, hne⟩
  item := by
    intro X hP hw hK hc i pins s σ H E I hf st hg
    subst hP hw hK
    obtain ⟨⟨old, he⟩, hit, hne⟩ := st
    obtain ⟨xs, x, hq, hx⟩ := hg
    obtain ⟨its, rv, p, hz⟩ := I.tuple hq
    obtain ⟨u, hu, ru⟩ := rv.get hx
    have hel : e < s.heap.objs.size := Heap.lt_size he
    have hil : it < s.heap.objs.size := by obtain ⟨_, q, _⟩ := hit; exact Heap.lt_size q
    have hsz : i < its.toArray.size := by have := (List.getElem?_eq_some_iff.mp hu).1; simpa using this
    refine wpAny_pyNext_enum_itemD (Draws.tuple (A := X.A.in1) (I.ok.hd hc) it a hat its.toArray) he ⟨hit, p⟩ hsz hne (by simp; exact ⟨hne, fun z => hae z.symm⟩) fun y h' tk hy ho hst hT hsz2 hk => ?_
    have hyu : y = u := by
      have hy' : its[i]? = some y := by simpa using hy
      rw [hu] at hy'
      exact (Option.some.inj hy').symm
    subst hyu
    refine ⟨_, rfl, wpAny_letOwnedTupleGo_enum (s := { s with heap := h', toks := tk + 1 }) ho fun h'' he' sb => ?_⟩
    have hT2 : h''.get? s.heap.objs.size = some { cls := .type "tuple", data := .seq #[.int i tk, y] } := (sb.2 _ (Nat.ne_of_gt hel)).trans hT
    have new : ObjOk X.prog X.w (upd H s.heap.objs.size (.tup [.int (i : Nat), x])) h'' s.heap.objs.size (.tup [.int (i : Nat), x]) :=
      ⟨by show 2 ≤ sizeLine; decide, [.int i tk, y], .cons ⟨_, rfl⟩ (.cons ru .nil), ⟨_, hT2, rfl, _, rfl⟩⟩
    have I1 : Inv X pins σ (upd H s.heap.objs.size (.tup [.int (i : Nat), x])) { s with heap := h'', toks := tk + 1 } :=
      I.turnedNew (ch := [e, it]) (fun b ob hb q => (sb.2 b (fun z => hb (by simp [z]))).trans (hk b ob (fun z => hb (by simp [z])) (fun z => hb (by simp [z])) q)) hf (Nat.le_refl _) new
    refine ⟨.ref s.heap.objs.size, _, I1, rfl, ⟨_, x, rfl, I.hok.fresh (Nat.le_refl _), rfl, fun ys hy => by rw [I.tuple_inj hy hq]; exact hx⟩, ⟨⟨y, ?_⟩, hst.1.at fun o q => (sb.2 it (Ne.symm hne)).trans q, hne⟩, fun b hb => ?_⟩
    · have e1 : ((i + 1 : Nat) : Int) = (i : Int) + 1 := by omega
      rw [e1]; exact he'
    · have hb' : b < s.heap.objs.size := by
        have e' : b = e ∨ b = it := by simpa using hb
        rcases e' with z | z
        · rw [z]; exact hel
        · rw [z]; exact hil
      rw [upd_ne (Nat.ne_of_lt hb')]
      exact (hf b hb).1
  done := by
    intro X hP hw hK hc i pins s σ H E I hf st hg
    subst hP hw hK
    obtain ⟨⟨old, he⟩, hit, hne⟩ := st
    obtain ⟨xs, hq, hx⟩ := hg
    obtain ⟨its, rv, p, hz⟩ := I.tuple hq
    obtain ⟨f0, f1, f2, f3, f4, f5⟩ := hf it (by simp)
    have hl := rv.length
    have hsz : its.toArray.size = i := by simp; omega
    refine wpAny_pyNext_enum_endD (Draws.tuple (A := X.A.in1) (I.ok.hd hc) it a hat its.toArray) he ⟨by rw [hsz]; exact hit, p⟩ fun h' eb => ⟨rfl, I.turned (t' := s.toks) (fun b o hb q => eb b o hb q) f0 f1 f3 f4 f5⟩
  self := fun A i s Q E st h => let ⟨⟨_, he⟩, _⟩ := st; wpAny_pyIter_enum he h
def iEnumA (K : PySem.W.Frag) (ta : TA) : TI := fun σ H R => ta σ H fun vs H1 => ∃ a xs, vs = [.ref a] ∧ ((SqL K H1 a xs ∧ R (Ite K a) H1) ∨ (SqT K H1 a xs ∧ R (IteT K a) H1))
theorem pi_enumA {X : Cx} {e : Expr} {ta : TA} {p pos tpos : Pos} {elts : List Expr} {kk : Nat} (hg : Gl X "enumerate") (hm : X.mg "enumerate" = none) (ha : PA X [e] ta) (hs : starEach [e] X.env = [(false, eval e X.env)] := by rfl) :
    PI X (.Tuple elts kk tpos) (.Call (.Name "enumerate" p) [e] [] pos) (iEnumA X.K ta) := by
  refine ⟨fun pins s σ H R I h => ?_⟩
  refine Call_ (ld_blt I hg hm boot_enumerate (PyProof.Rows.callWith_type1 (thn (ha.run pos pins s σ H _ I h) fun us s1 ⟨vs, H1, I1, r1, q1⟩ => ?_) hs rfl))
  obtain ⟨a, xs, ex, q⟩ := q1
  subst ex
  cases r1 with
  | cons r rr =>
    cases rr
    cases r
    have fp : ∀ b ∈ [s1.heap.objs.size + 1, s1.heap.objs.size], FpOk X pins H1 b := fun b hb => by
      have e' : b = s1.heap.objs.size + 1 ∨ b = s1.heap.objs.size := by simpa using hb
      have hle : s1.heap.objs.size ≤ b := by
        rcases e' with z | z
        · rw [z]; exact Nat.le_add_right _ _
        · rw [z]; exact Nat.le_refl _
      exact I1.fpOk hle (I1.hok.fresh hle)
    rcases q with ⟨hq, q⟩ | ⟨hq, q⟩
    · obtain ⟨its, rv, p', hz⟩ := I1.list hq
      refine call_enumerate_list p'.isList fun h' he hit hsz hk => wpAny_pyIter_enum he ?_
      have I2 : Inv X pins σ H1 { s1 with heap := h' } := I1.kept (t' := s1.toks) hk
      exact ⟨s1.heap.objs.size + 1, [s1.heap.objs.size + 1, s1.heap.objs.size], _, _, H1, rfl, I2, turn_enum a (s1.heap.objs.size + 1) s1.heap.objs.size, ⟨⟨.none, he⟩, hit, Nat.succ_ne_self _⟩, fp, q⟩
    · obtain ⟨its, rv, p', hz⟩ := I1.tuple hq
      have halt : a < s1.heap.objs.size := p'.lt
      refine enum_new1 (begins_tuple a its.toArray) p' fun h' he hit hsz hk => wpAny_pyIter_enum he ?_
      have I2 : Inv X pins σ H1 { s1 with heap := h' } := I1.kept (t' := s1.toks) hk
      exact ⟨s1.heap.objs.size + 1, [s1.heap.objs.size + 1, s1.heap.objs.size], _, _, H1, rfl, I2, turn_enumT a (s1.heap.objs.size + 1) s1.heap.objs.size (Nat.ne_of_lt halt) (Nat.ne_of_lt (Nat.lt_succ_of_lt halt)), ⟨⟨.none, he⟩, ⟨_, hit, rfl, rfl⟩, Nat.succ_ne_self _⟩, fp, q⟩
/-! over data -/
def enumD (xs : List PyData) : List PyData := (xs.zipIdx 0).map fun p => .tuple [.int (p.2 : Nat), p.1]
theorem enumD_len (xs : List PyData) : (enumD xs).length = xs.length := by unfold enumD; rw [List.length_map, List.length_zipIdx]
theorem enumD_get {xs : List PyData} {i : Nat} {x : PyData} (h : (enumD xs)[i]? = some x) : ∃ y, xs[i]? = some y ∧ x = .tuple [.int (i : Nat), y] := by
  unfold enumD at h
  rw [List.getElem?_map, List.getElem?_zipIdx] at h
  cases e : xs[i]? with
  | none => rw [e] at h; cases h
  | some y =>
    rw [e] at h
    simp at h
    exact ⟨y, rfl, h.symm⟩
section
variable {Z : XC} {K : KW} {X : Cx} {e : Expr} {ta : TA} {wr : WA} {p pos tpos : Pos} {elts : List Expr} {kk : Nat}
def wiEnum (wr : WA) : WI := fun ρ P => wr ρ fun xs ρ1 => ∃ y ys, xs = [y] ∧ itemsD y = some ys ∧ P (enumD ys) ρ1
theorem pair_rp {M : MS} {H : Hp} {T : Addr} {x : V} {d : PyData} {i : Nat} (ml : ∀ a, M a → Mut (H a)) (hT : H T = none) (r : Rp K M H x d) : Rp K M (upd H T (.tup [.int (i : Nat), x])) (.ref T) (.tuple [.int (i : Nat), d]) :=
  .tup (SqT.of upd_same) (.cons (.int _) (.cons (r.same ml (same_new hT)) .nil))
theorem i_enum (hm : X.mg "enumerate" = none) (ha : PAd Z X [e] ta wr) (hg : Gl X "enumerate" := by rfl) (hs : starEach [e] X.env = [(false, eval e X.env)] := by rfl) : PId Z X (.Tuple elts kk tpos) (.Call (.Name "enumerate" p) [e] [] pos) (iEnumA X.K ta) (wiEnum wr) := by
  refine ⟨pi_enumA hg hm ha.p hs, fun F G M σ H ρ R P hw Rr k => ?_⟩
  refine ha.i F G M σ H ρ R _ hw _ fun xs ρ1 vs M1 H1 R1 r1 ⟨y, ys, e, ei, q⟩ => ?_
  subst e
  cases r1 with
  | cons r1 r2 =>
    cases r2
    have r1' := r1
    cases r1 with
    | @lst a vs _ n1 l1 a1 =>
      cases ei
      refine ⟨a, vs, rfl, .inl ⟨SqL.of l1, k _ ρ1 _ _ M1 H1 (R1.push r1') ⟨fun M' H' fp ml' r i x ex => ?_, fun M' H' fp ml' r => ?_⟩ q⟩⟩
      · obtain ⟨y, ey, rfl⟩ := enumD_get ex
        cases r with
        | d r =>
          cases r with
          | @lst _ vs2 _ n2 l2 a2 =>
            obtain ⟨v, q1, q2⟩ := a2.get ey
            refine ⟨⟨vs2, v, SqL.of l2, q1⟩, fun v' H'' yl => ?_⟩
            obtain ⟨T, x, e1, hT, e2, hx⟩ := yl
            subst e1
            subst e2
            have hx' := hx vs2 (SqL.of l2)
            rw [q1] at hx'
            cases hx'
            exact ⟨same_new hT, pair_rp ml' hT q2⟩
      · cases r with
        | d r =>
          cases r with
          | @lst _ vs2 _ n2 l2 a2 => exact ⟨vs2, SqL.of l2, by rw [enumD_len, a2.length]; exact Nat.le_refl _⟩
    | @tup a vs _ l1 a1 =>
      cases ei
      refine ⟨a, vs, rfl, .inr ⟨l1, k _ ρ1 _ _ M1 H1 (R1.push r1') ⟨fun M' H' fp ml' r i x ex => ?_, fun M' H' fp ml' r => ?_⟩ q⟩⟩
      · obtain ⟨y, ey, rfl⟩ := enumD_get ex
        cases r with
        | d r =>
          cases r with
          | @tup _ vs2 _ l2 a2 =>
            obtain ⟨v, q1, q2⟩ := a2.get ey
            refine ⟨⟨vs2, v, l2, q1⟩, fun v' H'' yl => ?_⟩
            obtain ⟨T, x, e1, hT, e2, hx⟩ := yl
            subst e1
            subst e2
            have hx' := hx vs2 l2
            rw [q1] at hx'
            cases hx'
            exact ⟨same_new hT, pair_rp ml' hT q2⟩
      · cases r with
        | d r =>
          cases r with
          | @tup _ vs2 _ l2 a2 => exact ⟨vs2, l2, by rw [enumD_len, a2.length]⟩
    | _ => cases ei
end
end Dat
set_option Elab.async false
set_option linter.all false
set_option maxRecDepth 100000
set_option maxHeartbeats 4000000
/-! Own exception classes over any built-in one, whose __init__ keeps one argument as a field: made, raised, caught. -/
namespace Dat
section
open PySem PySem.Spec L2
open PySem.HandSPX
/-- what is asked of the built-in base: whose __new__ it has -/
structure ExN (newId : String) (bmB : List Value) : Prop where
  ex : ∃ (B inN : String) (bmN : List Value), ExcBaseFacts B newId inN bmN ∧ bmB.contains (.type B) = true
  noAttr : bmB.contains (.type "AttributeError") = false
  noName : bmB.contains (.type "NameError") = false
theorem exN_of {B newId initId : String} {bmB : List Value} (F : ExcBaseFacts B newId initId bmB) : ExN newId bmB := ⟨⟨B, initId, bmB, F, F.hasB⟩, F.noAttr, F.noName⟩
section
variable {M : Model} {A : Around} {E : Value → Shared → Prop} {h : Heap} {g : Array GenState} {d : Drawn} {t : Nat} {os : OsState}
variable {nm q : Str} {C N : Addr} {bs bm bmB bmN : List Value} {hdct : Bool} {sn : List Str} {sub : List Value} {ab : Bool} {col : Option Bool} {dd : Option Addr} {k0 k1 k2 k3 k5 : Option Value} {B newId initId : String}
theorem check_newK (F : ExcBaseFacts B newId initId bmN) (hB : bm.contains (.type B) = true) {rest : List Value} {kw : List (Str × Value)} {Q : Unit → Shared → Prop}
    (hC : h.get? C = some (excClassObj nm q C N bs bm hdct sn sub ab col dd k0 k1 k2 k3 k5 newId)) (hq : Q () ⟨h, g, d, t, os⟩) : wpAny M A (checkBuiltinCall newId ⟨.ref C :: rest, kw⟩) Q E ⟨h, g, d, t, os⟩ := by
  have hcont : (Value.ref C :: bm).contains (.type B) = true := by rw [List.contains_cons, hB, Bool.or_true]
  have hstar := F.noStar
  simp only [checkBuiltinCall, F.newKind, F.newSplit, F.newRow]
  repeat (first | refine wpAny_loadPart_at hC ?_ | (refine wpAny_isSubtype_exc hC ?_; rw [hcont]) | refine wpAny_staticBase_exc hC ?_ | refine wpAny_madeBy_exc hC ?_ | simp only [bne_self_eq_false, Bool.false_eq_true, if_false] | wp_step)
  exact hq
theorem check_callK {rest : List Value} {kw : List (Str × Value)} {Q : Unit → Shared → Prop} (hC : h.get? C = some (excClassObj nm q C N bs bm hdct sn sub ab col dd k0 k1 k2 k3 k5 newId))
    (hq : Q () ⟨h, g, d, t, os⟩) : wpAny M A (checkBuiltinCall "type.__call__" ⟨.ref C :: rest, kw⟩) Q E ⟨h, g, d, t, os⟩ := by
  have f3 := tc_sub
  have hT : (⟨h, g, d, t, os⟩ : Shared).TypeIs (.ref C) "type" := ⟨_, hC, rfl⟩
  simp only [checkBuiltinCall, tc_kind, tc_split]
  repeat (any_goals (first | assumption | with_reducible refine wpAny_loadPart_at hC ?_ | with_reducible refine wpAny_onRaise ?_ | with_reducible refine wpAny_map ?_ | wp_step))
end
section
variable {prog : Program} {w : World} {A : Around} {E : Value → Shared → Prop} {R : Result → Shared → Prop} {h : Heap} {g : Array GenState} {d : Drawn} {t : Nat} {os : OsState}
variable {nm q : Str} {C N : Addr} {bs bm bmB bmN : List Value} {hdct : Bool} {sn : List Str} {sub : List Value} {ab : Bool} {col : Option Bool} {dd : Option Addr} {k0 k1 k2 k3 k5 : Option Value} {B newId initId : String}
theorem newK (F : ExcBaseFacts B newId initId bmN) (hB : bm.contains (.type B) = true) (hA : bm.contains (.type "AttributeError") = false) (hNm : bm.contains (.type "NameError") = false) {rest : List Value} {kw : List (Str × Value)}
    (hC : h.get? C = some (excClassObj nm q C N bs bm hdct sn sub ab col dd k0 k1 k2 k3 k5 newId))
    (hq : R (.ok (.ret (.ref (h.objs.size + 1)))) ⟨(h.push (W.kdv_tup rest)).push (excO C h.objs.size), g, d, t, os⟩) (hrest : rest.length ≤ sizeLine) :
    codeAny (model prog w) A (.builtin newId ⟨.ref C :: rest, kw⟩) R ⟨h, g, d, t, os⟩ := by
  have hends := F.ends
  have hcB : (Value.ref C :: bm).contains (.type B) = true := by rw [List.contains_cons, hB, Bool.or_true]
  have hcA : (Value.ref C :: bm).contains (.type "AttributeError") = false := by rw [List.contains_cons, hA]; rfl
  have hcN : (Value.ref C :: bm).contains (.type "NameError") = false := by rw [List.contains_cons, hNm]; rfl
  refine codeAny_builtinAt F.entry ?_
  unfold Builtin.«BaseException.__new__»
  refine wpAt_bind ?_
  show wpAt _ _ _ (stack >>= _) _ _ _
  refine wpAt_bind (wpAt_stack fun p below => wpAt_of_wpAny ?_)
  wp_walk
  refine wpAt_of_wpAny ?_
  rw [F.owner]
  repeat (first | with_reducible refine wpAny_madeHere_exc F.canon hC ?_ | with_reducible refine wpAny_loadPart_at hC ?_ | (with_reducible refine wpAny_isSubtype_exc hC ?_; first | rw [hcB] | rw [hcA] | rw [hcN]) | wp_step)
  show R _ _
  rw [Heap.size_push]
  exact hq
theorem type_callK (F : ExcBaseFacts B newId initId bmN) (hB : bm.contains (.type B) = true) (hA : bm.contains (.type "AttributeError") = false) (hNm : bm.contains (.type "NameError") = false) {rest : List Value} {kw : List (Str × Value)} {fI : Addr} {Q : Fin → Shared → Prop}
    (hC : h.get? C = some (excClassObj nm q C N bs bm hdct sn sub ab col dd k0 k1 k2 k3 k5 newId))
    (hi : W.Looks (model prog w) h (typeLookup (.ref C) "__init__") (some (.ref fI))) (hb : ∀ self, W.Looks (model prog w) h (bindSpecial (.ref fI) self) (.ref fI, [self])) (hrest : rest.length ≤ sizeLine)
    (hq : codeAny (model prog w) A (.call (.ref fI) ⟨.ref (h.objs.size + 1) :: rest, kw⟩)
      (fun r s' => match r with | .ok (.ret v) => v = .none ∧ Q (.done (.ret (.ref (h.objs.size + 1)))) s' | .ok _ => False | .error e => E e s')
      ⟨(h.push (W.kdv_tup rest)).push (excO C h.objs.size), g, d, t, os⟩) :
    wpAny (model prog w) A (Builtin.«type.__call__» ⟨.ref C :: rest, kw⟩) Q E ⟨h, g, d, t, os⟩ := by
  repeat (first | with_reducible refine wpAny_loadPart_at hC ?_ | with_reducible refine wpAny_madeBy_exc hC ?_ | wp_step)
  refine codeAny_call_builtin_code (Code.quiet_builtin _ F.quiet) (check_newK F hB hC ?_)
  refine newK F hB hA hNm hC ?_ hrest
  show wpAny _ _ _ _ _ _
  have k : ∀ b o, h.get? b = some o → ((h.push (W.kdv_tup rest)).push (excO C h.objs.size)).get? b = some o := fun b o e => Heap.get?_push_of_some _ (Heap.get?_push_of_some _ e)
  have hC₁ := k _ _ hC
  have hget : ((h.push (W.kdv_tup rest)).push (excO C h.objs.size)).get? (h.objs.size + 1) = some (excO C h.objs.size) := by heap_get
  have hcC : (Value.ref C :: bm).contains (.ref C) = true := by simp
  have i1 := hi.keeps k
  have b1 := (hb (.ref (h.objs.size + 1))).keeps k
  unfold isInstance
  repeat (first | with_reducible refine wpAny_loadPart_at hget ?_ | (with_reducible refine wpAny_isSubtype_exc hC₁ ?_; rw [hcC]) | wp_step)
  show wpAny _ _ (typeLookup (.ref C) _) _ _ _
  refine i1.at ?_
  refine wpAny_holding (wpAny_bind (b1.at ?_))
  refine wpAny_bind (wpAny_call (codeAny_mono hq fun r s' z => ?_))
  rcases r with e | (v | _ | _ | _) <;> first | exact z | exact z.elim | skip
  obtain ⟨rfl, z⟩ := z
  first
    | exact wpAny_pure (wpAny_pure z)
    | (wp_walk; exact z)
theorem callK (F : ExcBaseFacts B newId initId bmN) (hB : bm.contains (.type B) = true) (hA : bm.contains (.type "AttributeError") = false) (hNm : bm.contains (.type "NameError") = false) {rest : List Value} {kw : List (Str × Value)} {fI : Addr}
    (hC : h.get? C = some (excClassObj nm q C N bs bm hdct sn sub ab col dd k0 k1 k2 k3 k5 newId))
    (hi : W.Looks (model prog w) h (typeLookup (.ref C) "__init__") (some (.ref fI))) (hb : ∀ self, W.Looks (model prog w) h (bindSpecial (.ref fI) self) (.ref fI, [self])) (hrest : rest.length ≤ sizeLine)
    (hq : codeAny (model prog w) (A.under (.builtin "type.__call__" ⟨.ref C :: rest, kw⟩)) (.call (.ref fI) ⟨.ref (h.objs.size + 1) :: rest, kw⟩) (W.InitBack (h.objs.size + 1) R)
      ⟨(h.push (W.kdv_tup rest)).push (excO C h.objs.size), g, d, t, os⟩) :
    codeAny (model prog w) A (.call (.ref C) ⟨rest, kw⟩) R ⟨h, g, d, t, os⟩ := by
  have f1 := tc_lookup
  have f2 := tc_bind (.ref C)
  have hTy : (⟨h, g, d, t, os⟩ : Shared).TypeIs (.ref C) "type" := ⟨_, hC, rfl⟩
  refine codeAny_of_tree ?_
  show wpAny _ _ (callAny (.ref C) _) _ _ _
  repeat (any_goals (first | assumption | with_reducible refine wpAny_loadPart_at hC ?_ | wp_step))
  refine ⟨rfl, ?_⟩
  refine codeAny_call_builtin_at (Code.quiet_builtin _ (by decide +kernel)) entry_typeCall (check_callK hC (type_callK F hB hA hNm hC hi hb hrest ?_))
  refine codeAny_mono hq fun r s' z => ?_
  rcases r with e | (v | _ | _ | _) <;> exact z
end
end
end Dat
namespace Dat
open PySem PySem.Spec PyProof.Rows L2
open Builtin Builtin.ObjectAttr
/-- what is asked of the class -/
structure OexB (K : PySem.W.Frag) (B newId initId : String) (bmB : List Value) (C : Addr) (f : Str) : Prop where
  FB : ExN newId bmB
  SF : StoreFacts B bmB "object.__setattr__" "object"
  q : PySem.W.excInitIn K C bmB newId = true
  ov : PySem.W.excOver K C bmB = true
  tk : PySem.W.takerIn K C f = some none
  hd : (PySem.W.clsIn K C).any (·.hasDict) = true
  sa : PySem.W.findIn K (.ref C) "__setattr__" = some (some (.builtin "object.__setattr__"))
  exC : PySem.W.subIn K (.ref C) (.type "BaseException") = some true
  tyC : PySem.W.typeIn K (.ref C) = some (.type "type")
  kC : PySem.W.keepIn K (.ref C) = true
section
variable {X : Cx} {B newId initId : String} {bmB : List Value} {pins : List (Addr × Obj)} {σ : L2.St} {H : Hp} {s : Shared} {a C dx : Addr} {f : Str} {y : V} {u : Value} {fs : List (Str × V)} {Q : Unit → Shared → Prop} {E : Value → Shared → Prop} {A : Around}
theorem ost_newB (T : OexB X.K B newId initId bmB C f) (I : Inv X pins σ H s) (e : H a = some (exo a C none)) (ry : RelV y u)
    (h : ∀ dx s', H dx = none → dx ≠ a → Inv X pins σ (upd (upd H dx (exd dx [(f, y)])) a (exo a C (some dx))) s' → Q () s') : wpAny (model X.prog X.w) A (setAttr (.ref a) f u) Q E s := by
  obtain ⟨t1, ho⟩ := exo_at I.hok e
  obtain ⟨hp, g, d, t, os⟩ := s
  refine PySem.W.set_plain I.kIn (ox := { cls := .ref C, dict := none, data := .fields #[.ref t1, .none, .none, .none, .bool false, .none] }) (od := none) ⟨ho, rfl, rfl, trivial⟩ T.sa ?_
  refine PySem.W.osa_openX (od := none) T.SF I.kIn ⟨ho, rfl, rfl, trivial⟩ T.ov T.tk fun b => ?_
  obtain ⟨cd, hcd, hh⟩ := PySem.W.any_some T.hd
  have hcls : PySem.W.Looks (model X.prog X.w) hp (classData C) cd := PySem.W.looks_clsIn I.kIn hcd
  have hxs : a ≠ hp.objs.size := Nat.ne_of_lt (Heap.lt_size ho)
  show wpAny _ _ (storeInOwnDict (.ref a) (.ref C) (.str f _) f u b) _ _ _
  obtain ⟨nm, bs, mro, ns, qn, hd, sn, sb, ab, col, del⟩ := cd
  dsimp only at hh
  subst hh
  unfold storeInOwnDict ownDictForStores
  repeat (first | with_reducible refine PySem.HandSPX.store_in_new ?_ ?_ | with_reducible refine wpAny_loadPart_at ho ?_ | with_reducible refine hcls.at ?_ | wp_step)
  · exact ⟨_, #[], _, (Heap.get?_update_ne _ _ _ _ hxs.symm).trans (Heap.get?_push_at rfl rfl), rfl, fun e he => absurd he (by simp), fun _ => rfl⟩
  · intro h' tk' hn hs
    have hx₁ := Heap.get?_push_of_some { cls := .type "dict", data := .dict #[] } ho
    have hx : h'.get? a = some { cls := .ref C, dict := some hp.objs.size, data := .fields #[.ref t1, .none, .none, .none, .bool false, .none] } := (hs.2 a hxs).trans (Heap.get?_update_self _ hx₁ rfl)
    have k : ∀ b o, b ≠ a → hp.get? b = some o → h'.get? b = some o := fun b o hb q => (hs.2 b (Nat.ne_of_lt (Heap.lt_size q))).trans ((Heap.get?_update_ne _ _ _ _ hb).trans (Heap.get?_push_of_some _ q))
    have hnd : H hp.objs.size = none := I.hok.fresh (Nat.le_refl _)
    have na : ∀ {b : Addr}, H b = none → b ≠ a := fun {b} n z => by
      rw [z, e] at n
      cases n
    have nd : ∀ {b : Addr} {o : Obj}, hp.get? b = some o → b ≠ hp.objs.size := fun {b o} q => Nat.ne_of_lt (Heap.lt_size q)
    have Un1 : Un X.fs [] H (upd (upd H hp.objs.size (exd hp.objs.size [(f, y)])) a (exo a C (some hp.objs.size))) hp h' := {
      keep := fun b o q n _ _ => k b o (na n) q
      slot := fun b o q n _ _ => ⟨o.slots, k b o (na n) q⟩
      free := fun b o q n _ => by rw [upd_ne (na n), upd_ne (nd q)]; exact n
      there := fun b o q _ => by
        by_cases hb : b = a
        · exact ⟨_, by rw [hb]; exact hx⟩
        · exact ⟨o, k b o hb q⟩
      tups := fun b xs q => by rw [upd_ne (at_ne e q exo_tup), upd_ne (ne_of_none q hnd)]; exact q
      frzs := fun b o v q => by rw [upd_ne (at_ne e q exo_frz), upd_ne (ne_of_none q hnd)]; exact q
      tbls := fun b ps q => ⟨#[], by rw [upd_ne (at_ne e q exo_tbl), upd_ne (ne_of_none q hnd), q]; simp⟩ }
    refine h hp.objs.size _ hnd hxs.symm (I.un (t' := tk') Un1 fun b o q => ?_)
    by_cases hb : b = a
    · subst hb
      rw [upd_same] at q
      cases q
      exact exo_ok hx
    · rw [upd_ne hb] at q
      by_cases hd : b = hp.objs.size
      · subst hd
        rw [upd_same] at q
        cases q
        exact exd_ok hn (relO_put (fs := []) ry fun g => True.intro)
      · rw [upd_ne hd] at q
        exact (I.hok b o q).stay (fun c v hc z => k c v (by
            rcases hc with hc | hc
            · rw [hc]
              exact hb
            · exact at_ne e hc exo_own) z)
          (fun c hc => by rw [upd_ne (at_ne e hc exo_own), upd_ne (ne_of_none hc hnd)]; exact hc) (fun c xs hc => by rw [upd_ne (at_ne e hc exo_tup), upd_ne (ne_of_none hc hnd)]; exact hc)
end
/-! ### the __init__ that keeps its argument -/
/-- its promise -/
def spI (C : Addr) (f : Str) : Sp := fun vs H Q E => ∃ a v, vs = [.ref a, v] ∧ H a = some (exo a C none) ∧ ∀ dx, H dx = none → dx ≠ a → Q .non (upd (upd H dx (exd dx [(f, v)])) a (exo a C (some dx)))
/-- self.f = e, the first field -/
def tOst1 (C : Addr) (f : Str) (to te : TE) : TS := fun D σ H => te σ H fun y H1 => to σ H1 fun x H2 => ∃ a : Addr, x = .ref a ∧ H2 a = some (exo a C none) ∧ ∀ dx, H2 dx = none → dx ≠ a → D.nx σ (upd (upd H2 dx (exd dx [(f, y)])) a (exo a C (some dx)))
section
variable {X : Cx} {B newId initId : String} {bmB : List Value} {C : Addr} {f : Str} {o e : Expr} {es : List Expr} {to te : TE} {ta : TA} {p p' pos : Pos}
theorem ps_ost1 (T : OexB X.K B newId initId bmB C f) (ho : PE X o to) (he : PE X e te) (hs : swapsWith e (some (.Attribute o f p')) pos.line X.env = pure false := by rfl) : PS X (.Assign [.Attribute o f p'] e pos) (tOst1 C f to te) := by
  refine ⟨fun pins s σ H D I h => ?_⟩
  refine plainObj_wpAny_Assign_Attribute (thn (he.run pins s σ H _ I h) fun v s1 ⟨y, H1, I1, r1, q1⟩ => thn (ho.run pins s1 σ H1 _ I1 q1) fun u s2 ⟨x, H2, I2, r2, a, ex, ea, q⟩ => ?_) hs
  subst ex
  obtain rfl : u = Value.ref a := r2
  exact ost_newB T I2 ea r1 fun dx s' n ne J => ⟨σ, _, J, q dx n ne⟩
/-- C(e): the field is laid -/
def tMk1 (C : Addr) (f : Str) (ta : TA) : L2.St → Hp → XK → Prop := fun σ H Q => ta σ H fun vs H1 => ∃ v, vs = [v] ∧ ∀ d, H1 d = none → Q (.ref C) (some d) (upd H1 d (.xd [(f, v)]))
/-- the making itself; the arguments are us and kw, bound to [self, u] -/
theorem run_mk1 {CX : CXT} {fI : Addr} {k : Nat} {fd : FuncData} {ps : List Str} {pins : List (Addr × Obj)} {σ : L2.St} {H1 : Hp} {s1 : Shared} {Q : XK} {us : List Value} {kw : List (Str × Value)} {v : V} {u : Value} (T : OexB X.K B newId initId bmB C f) (iC : PySem.W.findIn X.K (.ref C) "__init__" = some (some (.ref fI))) (tI : PySem.W.typeIn X.K (.ref fI) = some (.type "function"))
    (F1 : FnOk X.prog X.w X.K X.mg X.base CX k fI fd ps (spI C f)) (hr : Room (k + 1) X.A) (hx : Passes CX X (fun _ _ _ => False)) (I1 : Inv X pins σ H1 s1) (r1 : RelV v u) (hus : us.length ≤ sizeLine)
    (hb : ∀ (s : Shared) (self : Value), X.K.In s.heap → BindsTo s fd ⟨self :: us, kw⟩ (ps.zip [self, u])) (q1 : ∀ d, H1 d = none → Q (.ref C) (some d) (upd H1 d (.xd [(f, v)]))) :
    wpAny (model X.prog X.w) X.A (call (.ref C) us kw) (L2N.MkP X pins σ Q) X.xe s1 := by
  obtain ⟨nm, N, qn, bs, bm, hdct, sn, sub, ab, col, dd, k0, k1, k2, k3, k5, hC, hT⟩ := PySem.W.excInit_of I1.kIn T.q
  obtain ⟨⟨B0, in0, bm0, FN, hB0⟩, hA0, hN0⟩ := T.FB
  obtain ⟨hp, g, dr, tk, os⟩ := s1
  have hsz : hp.objs.size ≤ hp.objs.size + 1 := Nat.le_succ _
  have hn : H1 (hp.objs.size + 1) = none := I1.hok.fresh hsz
  have kk : ∀ b o, hp.get? b = some o → ((hp.push (PySem.W.kdv_tup us)).push (PySem.HandSPX.excO C hp.objs.size)).get? b = some o := fun b o e => Heap.get?_push_of_some _ (Heap.get?_push_of_some _ e)
  have hget : ((hp.push (PySem.W.kdv_tup us)).push (PySem.HandSPX.excO C hp.objs.size)).get? (hp.objs.size + 1) = some (PySem.HandSPX.excO C hp.objs.size) := by heap_get
  have I2 : Inv X pins σ (upd H1 (hp.objs.size + 1) (exo (hp.objs.size + 1) C none)) ⟨(hp.push (PySem.W.kdv_tup us)).push (PySem.HandSPX.excO C hp.objs.size), g, dr, tk, os⟩ :=
    I1.laid (t' := tk) (a := hp.objs.size + 1) (o := exo (hp.objs.size + 1) C none) (h' := (hp.push (PySem.W.kdv_tup us)).push (PySem.HandSPX.excO C hp.objs.size)) kk hsz (exo_ok hget)
  have r2 : Vals (V.ref (hp.objs.size + 1) :: [v]) (Value.ref (hp.objs.size + 1) :: [u]) := .cons rfl (.cons r1 .nil)
  have hq : spI C f (V.ref (hp.objs.size + 1) :: [v]) (upd H1 (hp.objs.size + 1) (exo (hp.objs.size + 1) C none))
      (fun v H2 => v = .non ∧ ∃ (d : Addr) (fs : List (Str × V)), H2 (hp.objs.size + 1) = some (exo (hp.objs.size + 1) C (some d)) ∧ H2 d = some (exd d fs) ∧ H1 d = none ∧ Q (.ref C) (some d) (upd (del H2 (hp.objs.size + 1)) d (.xd fs))) (fun _ _ _ => False) := by
    refine ⟨_, v, rfl, upd_same, fun dx nx ne => ⟨rfl, dx, _, upd_same, by rw [upd_ne ne, upd_same], ?_, ?_⟩⟩
    · rw [upd_ne ne] at nx
      exact nx
    · have e1 : upd (del (upd (upd (upd H1 (hp.objs.size + 1) (exo (hp.objs.size + 1) C none)) dx (exd dx [(f, v)])) (hp.objs.size + 1) (exo (hp.objs.size + 1) C (some dx))) (hp.objs.size + 1)) dx (.xd [(f, v)]) = upd H1 dx (.xd [(f, v)]) := by
        funext b
        by_cases hb : b = dx
        · rw [hb, upd_same, upd_same]
        · rw [upd_ne hb, upd_ne hb]
          by_cases ha : b = hp.objs.size + 1
          · rw [ha, del_same, hn]
          · rw [del_ne ha, upd_ne ha, upd_ne hb, upd_ne ha]
      rw [e1]
      refine q1 dx ?_
      rw [upd_ne ne] at nx
      exact nx
  refine wpAny_call (callK FN (by rw [hT]; exact hB0) (by rw [hT]; exact hA0) (by rw [hT]; exact hN0) hC (PySem.W.looks_findIn I1.kIn iC) (fun self => PySem.W.bind_fn I1.kIn self tI) hus
    (codeAny_mono (F1.run _ X.stack _ _ ⟨Value.ref (hp.objs.size + 1) :: us, kw⟩ (Value.ref (hp.objs.size + 1) :: [u]) _ _ (fun _ _ _ => False) (hr.make C us kw) (I2.env0.make C us kw) (hb _ _ I2.kIn) r2 hq) fun r s' hq' => ?_))
  cases r with
  | error er => exact hx pins σ _ _ er s' I2 hq'
  | ok fl =>
    cases fl with
    | ret u =>
      obtain ⟨v, H2, os2, bare2, un2, hok2, rv, ev, d, fs, ea, ed, hd1, q2⟩ := hq'
      subst ev
      obtain ⟨h2, g2, d2, t2, os'⟩ := s'
      obtain ⟨t0, G, J, kG, ge, hoe, na⟩ := mk_end0 (d2 := d2) (t2 := t2) I1 hsz kk un2 hok2 os2 bare2 ea ed hd1
      exact ⟨rv, _, _, _, ⟨G, g2, d2, t2, os'⟩, _, .ref C, some d, rfl, J, kG, ge, hoe, ⟨rfl, rfl, fun vs e => by cases e; rfl⟩, rfl, rfl, na, rfl, bare2, raises_own T.exC T.tyC, q2⟩
    | next => exact False.elim hq'
    | brk => exact False.elim hq'
    | cont => exact False.elim hq'
theorem pmk_1 {CX : CXT} {x : Str} {fI : Addr} {k : Nat} {fd : FuncData} {ps : List Str} (T : OexB X.K B newId initId bmB C f) (iC : PySem.W.findIn X.K (.ref C) "__init__" = some (some (.ref fI))) (tI : PySem.W.typeIn X.K (.ref fI) = some (.type "function"))
    (F1 : FnOk X.prog X.w X.K X.mg X.base CX k fI fd ps (spI C f)) (hr : Room (k + 1) X.A) (hb : Binds X.K fd ps []) (hx : Passes CX X (fun _ _ _ => False)) (hg : Gl X x) (hm : X.mg x = some (.ref C)) (ha : PA X [e] ta)
    (hdb : (x == ("__debug__" : Str)) = false := by decide) (he : starEach [e] X.env = (false, eval e X.env) :: starEach [] X.env := by rfl) (hpl : (backTo pos (starEach [] X.env)).any (·.1) = false := by rfl) :
    L2N.PMk X (.Call (.Name x p) [e] [] pos) (tMk1 C f ta) := by
  intro pins s σ H Q I h
  refine wpAny_Call_Name_kw (ld_glob I hg hm ?_ hdb)
  refine PySem.W.callWith_K (h₀ := X.base) I.ok.mod.kin T.kC (thn (ha.run pos pins s σ H _ I h) fun us s1 ⟨vs, H1, I1, r1, v, ev, q1⟩ => ⟨I1.kIn, ?_⟩) he hpl
  subst ev
  cases r1 with
  | cons ru rn =>
    cases rn
    rename_i u _
    have hl : 2 = ps.length := F1.len [.ref 0, v] (fun _ => some (exo 0 C none)) (fun _ _ => True) (fun _ _ _ => False) ⟨0, v, rfl, rfl, fun _ _ _ => trivial⟩
    exact run_mk1 T iC tI F1 hr hx I1 ru (by show 1 ≤ sizeLine; rw [sizeLine_eq]; omega) (fun s self X => by
      have q := hb s [self, u] X (by rw [List.append_nil]; exact hl)
      rw [List.append_nil] at q
      exact q) q1
/-- C(k=e) -/
theorem pmk_1k {CX : CXT} {x pn : Str} {kpos : Pos} {fI : Addr} {k : Nat} {fd : FuncData} {ps : List Str} (T : OexB X.K B newId initId bmB C f) (iC : PySem.W.findIn X.K (.ref C) "__init__" = some (some (.ref fI))) (tI : PySem.W.typeIn X.K (.ref fI) = some (.type "function"))
    (F1 : FnOk X.prog X.w X.K X.mg X.base CX k fI fd ps (spI C f)) (hr : Room (k + 1) X.A) (hb : KBn X.K fd ps 1 [pn] (· ++ ·) (· ++ ·)) (hx : Passes CX X (fun _ _ _ => False)) (hg : Gl X x) (hm : X.mg x = some (.ref C)) (ha : PK X [⟨some pn, e, kpos⟩] ta)
    (hall : (backToKw pos (keywordEach [⟨some pn, e, kpos⟩] X.env)).all (·.1.isSome) = true := by rfl) (hks : (backToKw pos (keywordEach [⟨some pn, e, kpos⟩] X.env)).filterMap (·.1) = [pn] := by rfl)
    (hdb : (x == ("__debug__" : Str)) = false := by decide) (hpl : ((backTo pos (starEach [] X.env)).any (·.1) || (backToKw pos (keywordEach [⟨some pn, e, kpos⟩] X.env)).any (·.1.isNone)) = false := by rfl) :
    L2N.PMk X (.Call (.Name x p) [] [⟨some pn, e, kpos⟩] pos) (tMk1 C f ta) := by
  intro pins s σ H Q I h
  refine wpAny_Call_Name_kw (ld_glob I hg hm ?_ hdb)
  refine PySem.W.callWith_KW0 (h₀ := X.base) I.ok.mod.kin T.kC hall (thn (ha.run pos pins s σ H _ I h) fun us s1 ⟨vs, H1, I1, r1, v, ev, q1⟩ => ⟨I1.kIn, ?_⟩) hpl
  subst ev
  rw [hks]
  cases r1 with
  | cons ru rn =>
    cases rn
    rename_i u _
    exact run_mk1 T iC tI F1 hr hx I1 ru (Nat.zero_le _) (fun s self X => hb.to s [self] [u] X rfl rfl) q1
end
end Dat
set_option Elab.async false
set_option linter.all false
set_option maxRecDepth 100000
set_option maxHeartbeats 4000000
/-! raise C(e), try .. except C as n: return n.f, over data. -/
namespace Dat
open PySem PySem.Spec PyProof.Rows L2
section
variable {P : Program} {w : World} {K : PySem.W.Frag} {mg : Str → Option Value} {base : Heap} {B newId initId : String} {bmB : List Value} {C fI : Addr} {f : Str}
theorem init_ok {CX : CXT} {qual prm : Str} {params : Arguments} {body : List Stmt} {scope : Scope} {fd : FuncData} {p1 p2 p3 pos : Pos} (T : OexB K B newId initId bmB C f) (F : FunD K "__init__" qual params body scope [] [] fI fd)
    (S : FnScope ["self", prm] ["self", prm] scope) (hbd : body = [.Assign [.Attribute (.Name "self" p1) f p2] (.Name prm p3) pos]) (hv : Vis scope "self") (hv2 : Vis scope prm) (hd : (prm == ("__debug__" : Str)) = false) (hcd : (prm == ("__classdict__" : Str)) = false) :
    FnOk P w K mg base CX 1 fI fd ["self", prm] (spI C f) := by
  refine FunD.ok F S (fun vs H Q E ⟨a, v, e, _⟩ => by rw [e]; rfl) fun cdv A outer s H vs Q E hr ⟨a, v, e, ha, hq⟩ => ?_
  subst e
  subst hbd
  refine ⟨_, pss_cons (ps_ost1 (X := cxOf CX P w K mg base ["self", prm] qual scope fI cdv A outer s H E) T (pe_var (i := 0) rfl hv) (pe_var (i := 1) rfl hv2 hd hcd) rfl) pss_nil, ?_⟩
  exact ⟨v, rfl, _, rfl, a, rfl, ha, fun dx h1 h2 => hq dx h1 h2⟩
end
section
variable {Z : XC} {X : Cx} {B newId initId : String} {bmB : List Value} {C : Addr} {f : Str} {e : Expr} {ta : TA} {wr : WA} {p pos pos' : Pos}
def wRaise (x f : Str) (zx : WXd) (wr : WA) : WS := fun _ ρ => wr ρ fun xs ρ1 => ∃ y, xs = [y] ∧ zx ⟨x, [(f, y)]⟩ ρ1
theorem s_raise1 {CX : CXT} {x : Str} {fI : Addr} {k : Nat} {fd : FuncData} {ps : List Str} (T : OexB X.K B newId initId bmB C f) (iC : PySem.W.findIn X.K (.ref C) "__init__" = some (some (.ref fI))) (tI : PySem.W.typeIn X.K (.ref fI) = some (.type "function"))
    (F1 : FnOk X.prog X.w X.K X.mg X.base CX k fI fd ps (spI C f)) (hr : Room (k + 1) X.A) (hb : Binds X.K fd ps []) (hx : Passes CX X (fun _ _ _ => False)) (tk : L2N.Takes X Z.W) (hz : Z.mg = X.mg) (hm : X.mg x = some (.ref C)) (ha : PAd Z X [e] ta wr) (hc : X.calm = true := by rfl) (hg : Gl X x := by rfl)
    (hdb : (x == ("__debug__" : Str)) = false := by decide) (he : starEach [e] X.env = (false, eval e X.env) :: starEach [] X.env := by rfl) (hpl : (backTo pos (starEach [] X.env)).any (·.1) = false := by rfl) :
    PSd Z X (.Raise (some (.Call (.Name x p) [e] [] pos)) none pos') (fun _ σ H => tMk1 C f ta σ H fun cls d H' => Z.W cls d σ H') (wRaise x f Z.x wr) := by
  refine ⟨L2N.ps_raise hc tk (pmk_1 T iC tI F1 hr hb hx hg hm ha.p hdb he hpl), fun F G M σ H ρ R E hw D cn => ?_⟩
  refine ha.i F G M σ H ρ R _ hw _ fun xs ρ1 vs M1 H1 R1 r1 ⟨y, ey, q⟩ => ?_
  subst ey
  cases r1 with
  | cons r1 r2 =>
    cases r2
    refine ⟨_, rfl, fun d hd => ?_⟩
    refine R1.cx ⟨x, [(f, y)]⟩ (.ref C) (some d) ρ1 M1 σ _ (R1.r.same (same_new hd)) (by rw [hz]; exact hm) (.inr ⟨d, [_], rfl, upd_same, .cons (r1.same R1.r.ml (same_new hd)) .nil⟩) q
end
/-! ### try: .. except C as n: return n.f -/
theorem lookup_rp {K : KW} {M : MS} {H : Hp} {f : Str} {y : PyData} : ∀ {fs : List (Str × PyData)} {vs : List V}, RpAll K M H vs (fs.map (·.2)) → fs.lookup f = some y → ∃ v, ((fs.map (·.1)).zip vs).lookup f = some v ∧ Rp K M H v y
  | [], vs, _, h => by cases h
  | (g, z) :: fs, vs, r, h => by
    cases r with
    | cons r1 r2 =>
      rename_i v vs
      show ∃ w, ((g, v) :: ((fs.map (·.1)).zip vs)).lookup f = some w ∧ _
      rw [List.lookup] at h ⊢
      cases e : (f == g) with
      | true =>
        rw [e] at h
        cases h
        exact ⟨v, rfl, r1⟩
      | false =>
        rw [e] at h
        exact lookup_rp r2 h
section
variable {Z : XC} {X : Cx} {x n f : Str} {C : Addr} {i : Nat} {body : List Stmt} {np p1 p2 rp pos pos' : Pos} {wb : WXd → WS}
def wTryF (c f : Str) (i : Nat) (wb : WXd → WS) : WS := fun E ρ => wb (fun ex ρ' => ex.c = c ∧ i < ρ'.length ∧ ∃ v, ex.fs.lookup f = some v ∧ E.rt v (ρ'.set i none)) E ρ
/-- what is asked of the body, whatever is pinned -/
def tTryB (X : Cx) (body : List Stmt) (W : WX) : TS := fun D σ H => ∀ (pn : List (Addr × Obj)) (xe : Value → Shared → Prop), L2N.Takes (X.tr pn xe) W → ∃ t, PSs (X.tr pn xe) body t ∧ t D σ H
theorem s_tryF (T : XfC X.K C) (hno : PySem.W.findIn X.K (.ref C) f = some none) (hex : PySem.W.exmOne X.K (.ref C) (.ref C) = some true) (tk : L2N.Takes X Z.W) (hz : Z.mg = X.mg) (hm : X.mg x = some (.ref C)) (hN : X.N.Nodup)
    (hb : ∀ (W : WX) (zx : WXd) (pn : List (Addr × Obj)) (xe : Value → Shared → Prop), L2N.Takes (X.tr pn xe) W → ∃ t, PBd ⟨Z.mg, W, zx⟩ (X.tr pn xe) body t (wb zx))
    (hs : X.stack = X.env :: X.outer := by rfl) (hf : X.env.frame = some X.env.locals := by rfl) (hi : X.N[i]? = some n := by rfl) (hln : X.env.kindOf n = some .local := by rfl) (hg : Gl X x := by rfl) (hdb : (x == ("__debug__" : Str)) = false := by decide)
    (hv : Vis X.env.scope n := by first | exact Or.inl rfl | exact Or.inr (Or.inl rfl) | exact Or.inr (Or.inr rfl)) (hd : (n == ("__debug__" : Str)) = false := by decide) (hcd : (n == ("__classdict__" : Str)) = false := by decide)
    (hat : attributeBase (.Name n p1) f X.env (eval (.Name n p1) X.env) = eval (.Name n p1) X.env := by rfl) :
    PSd Z X (.Try body [.ExceptHandler (some (.Name x np)) (some n) [.Return (some (.Attribute (.Name n p1) f p2)) rp] pos'] [] [] pos)
      (fun D σ H => tTryB X body (wAs X.K (.ref C) i (fun a cls d => tSeq (tRet (tXf a cls d C f (tVar i))) tNext) Z.W D) D σ H) (wTryF x f i wb) := by
  refine ⟨L2N.ps_try_as hs hf hN hi hln ⟨hg, hdb, .inl hm⟩ tk (fun W pn xe tw _ => ?_) fun a oe cls d pn hzc hfs => ?_, fun F G M σ H ρ R E hw D cn => ?_⟩
  · refine ⟨fun pins s σ H D I h => ?_⟩
    obtain ⟨t, h1, h2⟩ := h pn xe tw
    exact h1.run pins s σ H D I h2
  · exact pss_cons (ps_ret (pe_xf T hno hzc.zc hfs (pe_var (X := X.suite a ((a, oe) :: pn)) hi hv hd hcd) hat)) pss_nil
  · intro pn xe tw
    obtain ⟨t, ht⟩ := hb _ (fun ex ρ' => ex.c = x ∧ i < ρ'.length ∧ ∃ v, ex.fs.lookup f = some v ∧ E.rt v (ρ'.set i none)) pn xe tw
    refine ⟨t, ht.p, ht.i F G M σ H ρ ⟨R.r, ?_⟩ E hw D cn⟩
    intro ex cls d ρ' M' σ' H' R' hc hxd ⟨ec, hil, v, hl, q⟩
    have hc : Z.mg ex.c = some cls := hc
    rw [ec, hz, hm] at hc
    cases hc
    refine ⟨true, hex, fun _ a na => ?_, fun z => by cases z⟩
    rcases hxd with ⟨e1, _⟩ | ⟨dd, vs, e1, e2, r⟩
    · rw [e1] at hl
      cases hl
    · subst e1
      obtain ⟨u, hu, ru⟩ := lookup_rp r hl
      have e3 : (σ'.set i (some (V.ref a)))[i]? = some (some (V.ref a)) := List.getElem?_set_self (by rw [R'.len]; exact hil)
      exact ⟨_, e3, rfl, rfl, dd, _, u, rfl, e2, hu, cn.rt v (ρ'.set i none) u M' σ' H' (R'.forget i) ru q⟩
end
/-! ### as the texts hold it -/
/-- a class x whose __init__ keeps its argument as f -/
structure XT (K : PySem.W.Frag) (x f : Str) (B newId initId : String) (bmB : List Value) : Prop where
  T : OexB K B newId initId bmB (He.ga K x) f
  iC : PySem.W.findIn K (.ref (He.ga K x)) "__init__" = some (some (.ref (He.fAd K (x, some "__init__"))))
  tI : PySem.W.typeIn K (.ref (He.fAd K (x, some "__init__"))) = some (.type "function")
  xf : XfC K (He.ga K x)
  no : PySem.W.findIn K (.ref (He.ga K x)) f = some none
  ex : PySem.W.exmOne K (.ref (He.ga K x)) (.ref (He.ga K x)) = some true
def xtB (K : PySem.W.Frag) (x f : Str) (newId : String) (bmB : List Value) : Bool :=
  PySem.W.excInitIn K (He.ga K x) bmB newId && (PySem.W.excOver K (He.ga K x) bmB && (decide (PySem.W.takerIn K (He.ga K x) f = some none) && ((PySem.W.clsIn K (He.ga K x)).any (·.hasDict) && (decide (PySem.W.findIn K (.ref (He.ga K x)) "__setattr__" = some (some (.builtin "object.__setattr__"))) &&
    (decide (PySem.W.subIn K (.ref (He.ga K x)) (.type "BaseException") = some true) && (decide (PySem.W.typeIn K (.ref (He.ga K x)) = some (.type "type")) && (PySem.W.keepIn K (.ref (He.ga K x)) && (decide (PySem.W.findIn K (.ref (He.ga K x)) "__init__" = some (some (.ref (He.fAd K (x, some "__init__"))))) &&
      (decide (PySem.W.typeIn K (.ref (He.fAd K (x, some "__init__"))) = some (.type "function")) && (xfB K (He.ga K x) && (decide (PySem.W.findIn K (.ref (He.ga K x)) f = some none) && decide (PySem.W.exmOne K (.ref (He.ga K x)) (.ref (He.ga K x)) = some true))))))))))))
theorem xt_ok {K : PySem.W.Frag} {x f : Str} {B newId initId : String} {bmB : List Value} (FB : ExN newId bmB) (SF : StoreFacts B bmB "object.__setattr__" "object") (h : xtB K x f newId bmB = true) : XT K x f B newId initId bmB := by
  unfold xtB at h
  simp only [Bool.and_eq_true, decide_eq_true_eq] at h
  obtain ⟨h1, h2, h3, h4, h5, h6, h7, h8, h9, h10, h11, h12, h13⟩ := h
  exact ⟨⟨FB, SF, h1, h2, h3, h4, h5, h6, h7, h8⟩, h9, h10, xfB_ok h11, h12, h13⟩
abbrev ieBm : List Value := [.type "IndexError", .type "LookupError", .type "Exception", .type "BaseException", .type "object"]
abbrev XTI (K : PySem.W.Frag) (x f : Str) : Prop := XT K x f "IndexError" "IndexError.__new__" "IndexError.__init__" ieBm
theorem xti_ok {K : PySem.W.Frag} {x f : Str} (h : xtB K x f "IndexError.__new__" ieBm = true) : XTI K x f := xt_ok (exN_of PySem.F.excBase_IndexError) PySem.F.store_IndexError h
/-- what a def needs to raise it -/
structure Mk1 (P : Program) (w : World) (K : PySem.W.Frag) (mg : Str → Option Value) (base : Heap) (x f : Str) : Prop where
  ex : ∃ (B newId initId : String) (bmB : List Value) (fI : Addr) (fd : FuncData) (ps : List Str), OexB K B newId initId bmB (He.ga K x) f ∧ PySem.W.findIn K (.ref (He.ga K x)) "__init__" = some (some (.ref fI)) ∧ PySem.W.typeIn K (.ref fI) = some (.type "function") ∧
    FnOk P w K mg base (L2N.CX P w) 1 fI fd ps (spI (He.ga K x) f) ∧ Binds K fd ps [] ∧ mg x = some (.ref (He.ga K x))
section
variable {Z : XC} {X : Cx} {x f : Str} {e : Expr} {ta : TA} {wr : WA} {p pos pos' : Pos}
theorem s_raiseM (M : Mk1 X.prog X.w X.K X.mg X.base x f) (hr : Room 2 X.A) (tk : L2N.Takes X Z.W) (hz : Z.mg = X.mg) (ha : PAd Z X [e] ta wr) (hc : X.calm = true := by rfl) (hg : Gl X x := by rfl)
    (hdb : (x == ("__debug__" : Str)) = false := by decide) (he : starEach [e] X.env = (false, eval e X.env) :: starEach [] X.env := by rfl) (hpl : (backTo pos (starEach [] X.env)).any (·.1) = false := by rfl) :
    PSd Z X (.Raise (some (.Call (.Name x p) [e] [] pos)) none pos') (fun _ σ H => tMk1 (He.ga X.K x) f ta σ H fun cls d H' => Z.W cls d σ H') (wRaise x f Z.x wr) := by
  obtain ⟨B, newId, initId, bmB, fI, fd, ps, T, iC, tI, F1, hb, hm⟩ := M.ex
  exact s_raise1 T iC tI F1 hr hb (L2N.passes_call takesN0 fun _ _ _ _ z => z) tk hz hm ha hc hg hdb he hpl
end
end Dat
set_option Elab.async false
set_option linter.all false
set_option maxRecDepth 100000
set_option maxHeartbeats 4000000
/-! x = [a comprehension], on one line. -/
namespace Dat
open PySem PySem.Spec PyProof.Rows L2
section
variable {Z : XC} {X : Cx} {tg elt iter e : Expr} {es : List Expr} {ifs : List Expr} {te : TE} {we : WE} {pos : Pos} {tt : TT} {wt : WT} {wi : TI} {wj : WI} {g : TG} {wg : WG} {gr : TGs} {wgr : WGs} {tk : TK} {wk : WK} {vs vs' : List Nat}
theorem s_compT {g : BF TG} {tt : BF TT} {tk : BF TK} {gs : List Comprehension} {scope : Scope} {yes : Env → Value → Sem Fin → Sem Fin} {i : Nat} {y : Str} {py spos : Pos} (own : List (Str × Nat)) (hN : X.N.Nodup) (ok : BlkOk X.N X.env.scope scope own) (hT : TurnsAs (.ListComp elt (⟨tg, iter, ifs, 0⟩ :: gs) scope pos) 0 tg iter ifs yes) (hi : PId Z X tg iter wi wj)
    (hg : ∀ (s : Shared) (H : Hp) (C : Addr) (cl : List (Str × Addr)) (fp : List Addr), PGvd (X.blk s H scope (compEnvC scope cl C X.env) fp) (own.map (·.2)) tg (g s H C cl fp) wg)
    (ht : ∀ (s : Shared) (H : Hp) (C : Addr) (cl : List (Str × Addr)) (fp : List Addr), PTsd Z (X.blk s H scope (compEnvC scope cl C X.env) fp) ifs (tt s H C cl fp) wt)
    (ha : ∀ (s : Shared) (H : Hp) (C : Addr) (cl : List (Str × Addr)) (fp : List Addr), PKt Z (X.blk s H scope (compEnvC scope cl C X.env) fp) yes vs' (tk s H C cl fp) wk) (hv : ∀ j ∈ vs', j ∈ own.map (·.2) := by decide) (hy : X.N[i]? = some y := by rfl) (hyl : X.env.scope.names.lookup y = some .local := by rfl) (hsw : swapsWith (.ListComp elt (⟨tg, iter, ifs, 0⟩ :: gs) scope pos) (some (.Name y py)) spos.line X.env = pure true := by rfl) (hc : X.calm = true := by rfl) (hs : ∀ x, foldedSetIterable iter X.env x = pure x := by intro _; rfl) :
    PSd Z X (.Assign [.Name y py] (.ListComp elt (⟨tg, iter, ifs, 0⟩ :: gs) scope pos) spos) (tAsg (tLcN wi g tt tk (own.map (·.2))) (gName i)) (wTake (wLcN wj wg wt wk (own.map (·.2))) i) :=
  s_takeC hN hi ok hT (fun s H C cl fp => (hg s H C cl fp).p) (fun s H C cl fp => (hg s H C cl fp).i) (fun s H C cl fp => (ht s H C cl fp).p) (fun s H C cl fp => (ht s H C cl fp).i) ha hv hy hyl hsw hc hs
end
/-! x in l, of data of any depth; l * k -/
theorem r65 {k : Nat} {A : Around} (r : Room k A) : A.units + 65 < cLine := by have := r.un; omega
def fInD (neg : Bool) (x y : PyData) : Option PyData := match y with
  | .list ds => if (SeqAt.shaped x && SeqAt.shaped (.list ds)) = true then some (.bool (if neg = true then !ds.any (fun z => PyData.eqv z x) else ds.any (fun z => PyData.eqv z x))) else none
  | _ => none
def fRep (x y : PyData) : Option PyData := match x, y with
  | .list xs, .int k => if decide (-(2 ^ 63) ≤ k ∧ k < 2 ^ 63 ∧ xs.length * k.toNat ≤ sizeLine) = true then some (.list (List.replicate k.toNat xs).flatten) else none
  | _, _ => none
section
variable {K : KW}
theorem l_inD : LiftR K (rInD K) (fInD false) := by
  intro M H x y z v u ml e rx ry Q k
  cases y with
  | list ds =>
    simp only [fInD] at e
    split at e
    · cases e
      rename_i h
      rw [Bool.and_eq_true] at h
      exact ⟨x, ds, Rp.dp x v (nodict h.1) rx, Rp.dp _ u (nodict h.2) ry, h.1, h.2, k _ H (Same.refl H) (.bl _)⟩
    · cases e
  | _ => cases e
theorem l_notInD : LiftR K (rNotInD K) (fInD true) := by
  intro M H x y z v u ml e rx ry Q k
  cases y with
  | list ds =>
    simp only [fInD] at e
    split at e
    · cases e
      rename_i h
      rw [Bool.and_eq_true] at h
      exact ⟨x, ds, Rp.dp x v (nodict h.1) rx, Rp.dp _ u (nodict h.2) ry, h.1, h.2, k _ H (Same.refl H) (.bl _)⟩
    · cases e
  | _ => cases e
theorem rpAll_app {M : MS} {H : Hp} : ∀ {vs us : List V} {xs ys : List PyData}, RpAll K M H vs xs → RpAll K M H us ys → RpAll K M H (vs ++ us) (xs ++ ys)
  | _, _, _, _, .nil, h => h
  | _, _, _, _, .cons r t, h => .cons r (rpAll_app t h)
theorem rpAll_rep {M : MS} {H : Hp} {vs : List V} {xs : List PyData} (h : RpAll K M H vs xs) : ∀ n : Nat, RpAll K M H (List.replicate n vs).flatten (List.replicate n xs).flatten
  | 0 => .nil
  | n + 1 => by
    rw [List.replicate_succ, List.replicate_succ, List.flatten_cons, List.flatten_cons]
    exact rpAll_app h (rpAll_rep h n)
theorem l_rep : LiftR K rRep fRep := by
  intro M H x y z v u ml e rx ry Q k
  cases x with
  | list xs =>
    cases y with
    | int n =>
      simp only [fRep] at e
      split at e
      · cases e
        rename_i h
        obtain ⟨h1, h2, h3⟩ := of_decide_eq_true h
        cases rx with
        | lst n1 e1 r1 =>
          cases ry
          exact ⟨_, _, _, rfl, rfl, e1, h1, h2, by rw [r1.length]; exact h3, fun p hp => k _ _ (same_new hp) (rp_newL ml hp (rpAll_rep r1 _))⟩
      · cases e
    | _ => cases e
  | _ => cases e
end
/-! a slice of one's own list -/
section
variable {Z : XC} {X : Cx} {pos : Pos}
def wSlO (k : Nat) (wl wh : WO) : WE := fun ρ P => (∃ bb xs, ρ[k]? = some (some (.o bb (.l xs)))) ∧ wl ρ fun lo ρ1 => wh ρ1 fun hi ρ2 => ∃ bb xs z, ρ2[k]? = some (some (.o bb (.l xs))) ∧ fSl lo hi (.list xs) = some z ∧ P z ρ2
theorem d_sliceO (k : Nat) {x : Str} {p : Pos} {lo hi : Option Expr} {tl th : TO} {wl wh : WO} {p2 : Pos} (hl : POd Z X lo tl wl) (hh : POd Z X hi th wh) (hN : X.N[k]? = some x := by rfl) (hv : Vis X.env.scope x := by first | exact Or.inl rfl | exact Or.inr (Or.inl rfl) | exact Or.inr (Or.inr rfl)) (hd : (x == ("__debug__" : Str)) = false := by decide) (hcd : (x == ("__classdict__" : Str)) = false := by decide) :
    PEd Z X (.Subscript (.Name x p) (.Slice lo hi none p2) pos) (tSl (rSlD X.kw) (tVar k) tl th) (wSlO k wl wh) := by
  refine ⟨pe_slice (SlR.or sl_list sl_tupA) (pe_var hN hv hd hcd) hl.p hh.p, fun F G M σ H ρ R P hw Q kk => ?_⟩
  obtain ⟨⟨b0, xs0, e0⟩, hw⟩ := hw
  obtain ⟨p0, vs0, h1, h3, h4⟩ := R.r.lst e0
  refine ⟨.ref p0, h1, ?_⟩
  refine hl.i F G M σ H ρ R _ hw _ fun l ρ2 M2 H2 R2 hw2 => ?_
  refine hh.i F G M2 σ H2 ρ2 R2 _ hw2 _ fun u ρ3 M3 H3 R3 ⟨b3, xs3, z, e3, e, hp⟩ => ?_
  obtain ⟨p1, vs1, z1, z3, z4⟩ := R3.r.lst e3
  rw [h1] at z1
  cases z1
  cases e
  refine .inl ⟨_, _, rfl, SqL.of z3, fun p hp' => kk _ ρ3 _ M3 _ (R3.same (same_new hp')) ?_ hp⟩
  unfold cutV
  rw [z4.length]
  exact rp_newL R3.ml hp' ((z4.drop _).take _)
end
end Dat
set_option Elab.async false
set_option linter.all false
set_option maxRecDepth 100000
set_option maxHeartbeats 4000000
/-! An exception that was caught stands for a datum: try .. except C as n: any suite. -/
namespace Dat
open PySem PySem.Spec PyProof.Rows L2
abbrev frzU : HO := .ext fun _ => True
section
variable {X : Cx} {pins : List (Addr × Obj)} {σ : L2.St} {H : Hp} {s : Shared}
theorem inv_seen (I : Inv X pins σ H s) {a : Addr} {oe : Obj} {vs : Array Value} (ha : s.heap.get? a = some oe) (hd : oe.data = .fields vs) (na : H a = none) (nL : a ≠ X.env.locals) (n0 : X.s_0.heap.get? a = none) (nP : ∀ p ∈ X.pn ++ pins, p.1 ≠ a) :
    Inv (X.suite a (X.pn ++ pins)) [] σ (upd H a (.frz oe frzU)) s := by
  have ne : ∀ {b : Addr} {o : HO}, H b = some o → b ≠ a := fun e => ne_of_none e na
  refine ⟨I.ok.suite _ _, I.os, I.bare, ⟨I.base.keep, I.base.slot, fun b o e1 e2 e3 => ?_, I.base.there, fun b xs e1 => ?_, fun b o u e1 => ?_, fun b ps e1 => ?_⟩, I.loc, I.cell, ?_, fun y c e1 => ?_, fun p hp => ?_, fun b o e1 => ?_, I.len⟩
  · rw [upd_ne (fun z => by rw [z, n0] at e1; cases e1)]
    exact I.base.free b o e1 e2 e3
  · have q := I.base.tups b xs e1
    rw [upd_ne (ne q)]
    exact q
  · have q := I.base.frzs b o u e1
    rw [upd_ne (ne q)]
    exact q
  · obtain ⟨more, q⟩ := I.base.tbls b ps e1
    exact ⟨more, by rw [upd_ne (ne q)]; exact q⟩
  · rw [upd_ne nL.symm]
    exact I.free
  · have q : c ≠ a := fun z => by
      obtain ⟨v, o, ho, hc⟩ := I.cell y c e1
      rw [z, ha] at ho
      cases ho
      rw [hd] at hc
      cases hc
    rw [upd_ne q]
    exact I.freeC y c e1
  · have hp' : p ∈ X.pn ++ pins := by
      have z : p ∈ (X.pn ++ pins) ++ [] := hp
      rwa [List.append_nil] at z
    obtain ⟨p1, p2, p3, p4, p5⟩ := I.pin p hp'
    exact ⟨p1, by rw [upd_ne (nP p hp')]; exact p2, p3, p4, p5⟩
  · by_cases hb : b = a
    · subst hb
      rw [upd_same] at e1
      cases e1
      exact ⟨ha, trivial, ⟨_, ha⟩, fun _ _ _ _ => trivial⟩
    · rw [upd_ne hb] at e1
      exact (I.hok b o e1).stay (fun _ _ _ q => q) (fun c q => by rw [upd_ne (ne q)]; exact q) fun c xs q => by rw [upd_ne (ne q)]; exact q
theorem inv_done {a : Addr} (I : Inv (X.suite a (X.pn ++ pins)) [] σ H s) (ok : X.Ok) : Inv X pins σ H s :=
  ⟨ok, I.os, I.bare, I.base, I.loc, I.cell, I.free, I.freeC, fun p hp => I.pin p (by show p ∈ (X.pn ++ pins) ++ []; rw [List.append_nil]; exact hp), I.hok, I.len⟩
end
/-- what the clause wishes of an exception of the body -/
def wFz (K : PySem.W.Frag) (c : Value) (i : Nat) (ts : Addr → Obj → TS) (Wout : WX) (D : Ends) : WX := fun cls d σ H =>
  ∃ b, PySem.W.exmOne K cls c = some b ∧ (b = true → ∀ a oe, H a = none → L2N.Zn cls d oe → (∃ fv, oe.data = .fields fv) → ts a oe { nx := fun σ' H' => D.nx (σ'.set i none) H', rt := D.rt, bk := fun σ' H' => D.bk (σ'.set i none) H', ct := fun σ' H' => D.ct (σ'.set i none) H' } (σ.set i (some (.ref a))) (upd H a (.frz oe frzU))) ∧
    (b = false → Wout cls d σ H)
section
variable {X : Cx} {x n : Str} {c : Value} {i : Nat} {body suite : List Stmt} {b0 : Stmt} {np pos pos' : Pos} {tb : WX → TS} {ts : Addr → Obj → TS} {Wout : WX}
theorem ps_try_fz (hx : X.ex = []) (hs : X.stack = X.env :: X.outer) (hf : X.env.frame = some X.env.locals) (hN : X.N.Nodup) (hi : X.N[i]? = some n) (hln : X.env.kindOf n = some .local) (hc : Names X x c) (tk : L2N.Takes X Wout)
    (hb : ∀ (W : WX) (pn : List (Addr × Obj)) (xe : Value → Shared → Prop), L2N.Takes (X.tr pn xe) W → PSs (X.tr pn xe) body (tb W))
    (hsu : ∀ (a : Addr) (oe : Obj) (pn : List (Addr × Obj)), PXN.CtxN oe → (∃ fv, oe.data = .fields fv) → PSs (X.suite a pn) (b0 :: suite) (ts a oe)) :
    PS X (.Try body [.ExceptHandler (some (.Name x np)) (some n) (b0 :: suite) pos'] [] [] pos) (fun D σ H => tb (wFz X.K c i ts Wout D) D σ H) := by
  refine ⟨fun pins s σ H D I h => ?_⟩
  have ok := I.ok
  have hfr : X.A.frames = some (X.env :: X.outer) := by rw [ok.frames, hs]
  refine wpAny_Try_except ?_
  refine wpAny_mono ((hb (wFz X.K c i ts Wout D) (X.pn ++ pins) _ ?_).run [] s σ H D (I.toTry _) h) (fun f s1 hsp => ?_) (fun e s1 he => he)
  · intro u s' xx
    obtain ⟨a, B, sI, pins', σ1, H1, cls, d, rfl, JJ, nb, up, sky, na, os, ag, b, hb1, hyes, hno⟩ := xx
    have J : Inv X pins σ1 H1 sI := JJ.ofTry ok
    have sky1 : Sky B (X.env :: X.outer) a (L2N.Zn cls d) X.env.locals s'.heap := by rw [← hs]; exact sky
    show wpAny (model X.prog X.w) X.A (noteFrame (.ref a) X.env) _ _ _
    refine L2N.Sky.land L2N.Zn.steady hfr hf sky1 fun h3 fl3 up3 => ?_
    have J3 : Inv X pins σ1 H1 { s' with heap := h3 } := J.landed nb fl3.1 (up.trans up3) os ag
    obtain ⟨oe3, vs3, he3, hz3, hd3⟩ := fl3.there
    have nfr : a ∉ frs (X.env :: X.outer) := fun hm => by
      obtain ⟨_, o', e', hnf⟩ := fl3.2.2.1.mem hm
      rw [he3] at e'
      cases e'
      exact hnf _ hd3
    have nL : a ≠ X.env.locals := fun z => nfr (List.mem_filterMap.mpr ⟨X.env, List.mem_cons_self, by rw [hf, z]⟩)
    have nF : a ∉ X.fs := fun hm => by
      obtain ⟨e, he, q⟩ := List.mem_filterMap.mp hm
      exact nfr (List.mem_filterMap.mpr ⟨e, List.mem_cons_of_mem _ he, q⟩)
    have nB : B.get? a = none := fl3.2.1
    have nI : sI.heap.get? a = none := by
      cases e : sI.heap.get? a with
      | none => rfl
      | some o =>
        have q := nb a o e (by rw [hs]; exact nfr)
        rw [nB] at q
        cases q
    have n0 : X.s_0.heap.get? a = none := by
      cases e : X.s_0.heap.get? a with
      | none => rfl
      | some o =>
        obtain ⟨o', q⟩ := J.base.there a o e (by rw [hx]; simp)
        rw [nI] at q
        cases q
    have nP : ∀ p ∈ X.pn ++ pins, p.1 ≠ a := fun p hp z => by
      have q := (J.pin p hp).1
      rw [z, nI] at q
      cases q
    have S3 := J3.suite he3 hd3 na nL nF
    refine wpAny_handleBy_cons (codeAny_handlers_test ?_) (by intro q; cases q)
    have LT : PySem.W.Looks (model X.prog X.w) h3 (typeOf (.ref a)) cls := fun A Q E s k q => wpAny_typeOf_ref (k _ _ he3) (by rw [hz3.1]; exact q)
    have LM := PySem.W.exm_one (M := model X.prog X.w) (J3.kIn) LT hb1
    have tst : ∀ {Q : Value → Shared → Prop} {E : Value → Shared → Prop}, Q c { s' with heap := h3 } → wpAny (model X.prog X.w) (X.A.mark (some (.ref a))) (eval (.Name x np) X.env) Q E { s' with heap := h3 } := fun {Q E} q => by
      obtain ⟨hg, hdbg, hm | ⟨hm, hv, hnn⟩⟩ := hc
      · exact ld_glob (X := X.suite a ((a, oe3) :: (X.pn ++ pins))) S3 hg hm q hdbg
      · exact ld_blt (X := X.suite a ((a, oe3) :: (X.pn ++ pins))) S3 hg hm hv q hnn hdbg
    refine tst (LM.here ?_)
    cases b with
    | true =>
      refine codeAny_handlers_suite_as ?_
      refine HandSPX.lands_againZ fl3 fun h4 fl4 up4 => ?_
      have J4 : Inv X pins σ1 H1 { s' with heap := h4 } := J.landed nb fl4.1 ((up.trans up3).trans up4) os ag
      obtain ⟨oe4, vs4, he4, hz4, hd4⟩ := fl4.there
      refine store_ok (X := X.suite a (X.pn ++ pins)) (v := .ref a) (inv_seen J4 he4 hd4 na nL n0 nP) hN hi (.inl hln) rfl (fun s5 S5 => ?_) (.inr hln)
      refine wpAny_mono ((hsu a oe4 (X.pn ++ pins) hz4.2.2 ⟨_, hd4⟩).run [] s5 _ _ _ S5 (hyes rfl a oe4 na hz4 ⟨_, hd4⟩)) (fun f s6 hsp => ?_) (fun _ _ z => False.elim z)
      cases f with
      | next =>
        obtain ⟨σ6, H6, S6, q6⟩ := hsp
        exact gone_ok (inv_done S6 ok) hN hi hln fun s7 J7 => ⟨_, _, J7, q6⟩
      | brk =>
        obtain ⟨σ6, H6, S6, q6⟩ := hsp
        exact gone_ok (inv_done S6 ok) hN hi hln fun s7 J7 => ⟨_, _, J7, q6⟩
      | cont =>
        obtain ⟨σ6, H6, S6, q6⟩ := hsp
        exact gone_ok (inv_done S6 ok) hN hi hln fun s7 J7 => ⟨_, _, J7, q6⟩
      | ret u =>
        obtain ⟨v6, σ6, H6, S6, r6, q6⟩ := hsp
        exact gone_ok (inv_done S6 ok) hN hi hln fun s7 J7 => ⟨_, _, _, J7, r6, q6⟩
    | false =>
      show wpAny _ X.A (handleBy (.ref a) X.env []) _ _ _
      refine wpAny_handleBy_nil ?_
      obtain ⟨k1, k2, k3, oe, vs, Tb, oT, ts', he, hz, hd, h1, hr⟩ := id fl3
      unfold PySem.passOn
      refine wpAny_bind (wpAny_field he hd h1 ?_)
      rw [if_neg (show ¬ ((Value.ref Tb == Value.none) = true) from by simp)]
      have fin : wpAny (model X.prog X.w) X.A (setFlight (.ref a) X.env.frame) (fun _ s4 => wpAny (model X.prog X.w) X.A (throw (.ref a) : Sem Flow) (SP X pins D) X.xe s4) X.xe { s' with heap := h3 } := by
        rw [hf]
        refine HandSPX.setFlight_upZ fl3 fun h4 hh4 up4 => wpAny_throw (tk _ _ ?_)
        exact ⟨a, B, sI, pins, σ1, H1, cls, d, rfl, J, nb, (up.trans up3).trans up4, .inr (.inr (by rw [hs]; exact hh4)), na, os, ag, hno rfl⟩
      first
        | exact wpAny_bind (wpAny_pure (wpAny_bind fin))
        | exact wpAny_bind fin
  · cases f with
    | next =>
      obtain ⟨σ2, H2, J2, q⟩ := hsp
      exact wpAny_execs_nil ⟨σ2, H2, J2.ofTry ok, q⟩
    | brk =>
      obtain ⟨σ2, H2, J2, q⟩ := hsp
      exact ⟨σ2, H2, J2.ofTry ok, q⟩
    | cont =>
      obtain ⟨σ2, H2, J2, q⟩ := hsp
      exact ⟨σ2, H2, J2.ofTry ok, q⟩
    | ret u =>
      obtain ⟨v, σ2, H2, J2, r, q⟩ := hsp
      exact ⟨v, σ2, H2, J2.ofTry ok, r, q⟩
end
end Dat
set_option Elab.async false
set_option linter.all false
set_option maxRecDepth 100000
set_option maxHeartbeats 4000000
/-! try .. except C as n: suite, over data; defs that are called there (hot ones). -/
namespace Dat
open PySem PySem.Spec PyProof.Rows L2
def excDt (ex : Exc) : PyData := .dict ((.str ex.c, .none) :: ex.fs.map fun p => (.str p.1, p.2))
abbrev endsSu (i : Nat) (E : DEnds) : DEnds := { nx := fun ρ => E.nx (ρ.set i none), rt := E.rt, bk := fun ρ => E.bk (ρ.set i none), ct := fun ρ => E.ct (ρ.set i none), rl := E.rl }
def wTryE (c : Str) (i : Nat) (wb : WXd → WS) (ws : WS) : WS := fun E ρ => wb (fun ex ρ' => ex.c = c ∧ ws (endsSu i E) (ρ'.set i (some (.d (excDt ex))))) E ρ
/-- where the exception that is handled stands -/
def ImpSh (a : Addr) (oe : Obj) (Z : XC) (K : KW) (t : TS) (w : WS) : Prop := ∀ (F : Frm) (G : List (V × T)) (M : MS) (σ : L2.St) (H : Hp) (ρ : DE), H a = some (.frz oe frzU) → RepX Z K F G M H σ ρ → ∀ (E : DEnds), w E ρ → ∀ D : Ends, Conn K F G E D → t D σ H
def ImpEh (a : Addr) (oe : Obj) (Z : XC) (K : KW) (t : TE) (w : WE) : Prop := ∀ (F : Frm) (G : List (V × T)) (M : MS) (σ : L2.St) (H : Hp) (ρ : DE), H a = some (.frz oe frzU) → RepX Z K F G M H σ ρ → ∀ P, w ρ P → ∀ Q : VK,
  (∀ x ρ' v M' H', RepX Z K F G M' H' σ ρ' → Rp K M' H' v x → P x ρ' → Q v H') → t σ H Q
def ImpTh (a : Addr) (oe : Obj) (Z : XC) (K : KW) (t : TT) (w : WT) : Prop := ∀ (F : Frm) (G : List (V × T)) (M : MS) (σ : L2.St) (H : Hp) (ρ : DE), H a = some (.frz oe frzU) → RepX Z K F G M H σ ρ → ∀ P, w ρ P → ∀ Q : Bool → Hp → Prop,
  (∀ b ρ' M' H', RepX Z K F G M' H' σ ρ' → P b ρ' → Q b H') → t σ H Q
structure PBh (a : Addr) (oe : Obj) (Z : XC) (X : Cx) (b : List Stmt) (t : TS) (w : WS) : Prop where
  p : PSs X b t
  i : ImpSh a oe Z X.kw t w
structure PEh (a : Addr) (oe : Obj) (Z : XC) (X : Cx) (e : Expr) (t : TE) (w : WE) : Prop where
  p : PE X e t
  i : ImpEh a oe Z X.kw t w
structure PTh (a : Addr) (oe : Obj) (Z : XC) (X : Cx) (e : Expr) (t : TT) (w : WT) : Prop where
  p : PT X e t
  i : ImpTh a oe Z X.kw t w
def tSu (X : Cx) (suite : List Stmt) (a : Addr) (oe : Obj) : TS := fun D σ H => ∀ (pn : List (Addr × Obj)), ∃ t, PSs (X.suite a pn) suite t ∧ t D σ H
section
variable {Z : XC} {X : Cx} {x n : Str} {i : Nat} {body suite : List Stmt} {b0 : Stmt} {np pos pos' : Pos} {wb : WXd → WS} {ws : WS}
theorem s_tryE (hex : PySem.W.exmOne X.K (.ref (He.ga X.K x)) (.ref (He.ga X.K x)) = some true) (tk : L2N.Takes X Z.W) (hz : Z.mg = X.mg) (hm : X.mg x = some (.ref (He.ga X.K x))) (hN : X.N.Nodup)
    (hb : ∀ (W : WX) (zx : WXd) (pn : List (Addr × Obj)) (xe : Value → Shared → Prop), L2N.Takes (X.tr pn xe) W → ∃ t, PBd ⟨Z.mg, W, zx⟩ (X.tr pn xe) body t (wb zx))
    (hsu : ∀ (a : Addr) (oe : Obj) (pn : List (Addr × Obj)), PXN.CtxN oe → (∃ fv, oe.data = .fields fv) → ∃ t, PBh a oe (Z0 X.mg) (X.suite a pn) (b0 :: suite) t ws)
    (hx : X.ex = [] := by rfl) (hs : X.stack = X.env :: X.outer := by rfl) (hf : X.env.frame = some X.env.locals := by rfl) (hi : X.N[i]? = some n := by rfl) (hln : X.env.kindOf n = some .local := by rfl) (hg : Gl X x := by rfl) (hdb : (x == ("__debug__" : Str)) = false := by decide) :
    PSd Z X (.Try body [.ExceptHandler (some (.Name x np)) (some n) (b0 :: suite) pos'] [] [] pos)
      (fun D σ H => tTryB X body (wFz X.K (.ref (He.ga X.K x)) i (tSu X (b0 :: suite)) Z.W D) D σ H) (wTryE x i wb ws) := by
  refine ⟨ps_try_fz hx hs hf hN hi hln ⟨hg, hdb, .inl hm⟩ tk (fun W pn xe tw => ?_) fun a oe pn _ _ => ?_, fun F G M σ H ρ R E hw D cn => ?_⟩
  · refine ⟨fun pins s σ H D I h => ?_⟩
    obtain ⟨t, h1, h2⟩ := h pn xe tw
    exact h1.run pins s σ H D I h2
  · refine ⟨fun pins s σ H D I h => ?_⟩
    obtain ⟨t, h1, h2⟩ := h pn
    exact h1.run pins s σ H D I h2
  · intro pn xe tw
    obtain ⟨t, ht⟩ := hb _ (fun ex ρ' => ex.c = x ∧ ws (endsSu i E) (ρ'.set i (some (.d (excDt ex))))) pn xe tw
    refine ⟨t, ht.p, ht.i F G M σ H ρ ⟨R.r, ?_⟩ E hw D cn⟩
    intro ex cls d ρ' M' σ' H' R' hc hxd ⟨ec, q⟩
    have hc : Z.mg ex.c = some cls := hc
    rw [ec, hz, hm] at hc
    cases hc
    refine ⟨true, hex, fun _ a oe na hzc hfv => ?_, fun z => by cases z⟩
    intro pn2
    obtain ⟨t2, ht2⟩ := hsu a oe pn2 hzc.2.2 hfv
    have sm : Same H' (upd H' a (.frz oe frzU)) := same_new na
    have R2 := R'.same sm
    have rp : Rp X.kw M' (upd H' a (.frz oe frzU)) (.ref a) (excDt ex) := by
      rcases hxd with ⟨e1, e2⟩ | ⟨dd, vs, e1, e2, r⟩
      · exact .exc (vs := []) rfl upd_same ⟨by rw [ec]; exact hzc.1, hfv⟩ (.inl ⟨e1, hzc.2.1.trans e2⟩) (by rw [e1]; exact .nil)
      · exact .exc rfl upd_same ⟨by rw [ec]; exact hzc.1, hfv⟩ (.inr ⟨dd, hzc.2.1.trans e1, sm _ _ e2⟩) (RpAll.same R'.ml sm r)
    have gone : ∀ {ρ2 : DE} {M2 : MS} {σ2 : L2.St} {H2 : Hp}, RepS X.kw F G M2 H2 σ2 ρ2 → RepS X.kw F G M2 H2 (σ2.set i none) (ρ2.set i none) := fun {ρ2 M2 σ2 H2} r => by
      refine (r.forget i).swap (by rw [List.length_set]) fun j y e => ?_
      by_cases hj : i = j
      · subst hj
        by_cases hl : i < ρ2.length
        · rw [List.getElem?_set_self hl] at e; cases e
        · rw [List.getElem?_eq_none (by rw [List.length_set]; omega)] at e; cases e
      · rw [List.getElem?_set_ne hj]
    refine ⟨t2, ht2.p, ht2.i F G M' _ _ _ upd_same ⟨R2.put i rp, fun _ _ _ _ _ _ _ _ _ _ z => z.elim⟩ _ q _ ⟨fun ρ2 M2 σ2 H2 r e => cn.nx _ M2 _ H2 (gone r) e, fun y ρ2 v M2 σ2 H2 r ry e => cn.rt y ρ2 v M2 σ2 H2 r ry e, fun ρ2 M2 σ2 H2 r e => cn.bk _ M2 _ H2 (gone r) e, fun ρ2 M2 σ2 H2 r e => cn.ct _ M2 _ H2 (gone r) e, fun t ρ2 v M2 σ2 H2 r e => cn.rl t ρ2 v M2 σ2 H2 r e⟩⟩
end
/-! ### defs called within a suite -/
structure RmH (k : Nat) (A : Around) : Prop where
  dp : A.depth + 3 * k + 5 < recursionLimit
  un : A.units + 16 * k + 200 < cLine
theorem RmH.mono {j k : Nat} {A : Around} (r : RmH k A) (h : j ≤ k) : RmH j A := ⟨by have := r.dp; omega, by have := r.un; omega⟩
theorem RmH.deeper {k : Nat} {A : Around} (r : RmH (k + 1) A) (env : Env) : RmH k (A.deeper env) :=
  ⟨by have := r.dp; show A.depth + 1 + 3 * k + 5 < _; omega, by have := r.un; show A.units + 3 + 16 * k + 200 < _; omega⟩
theorem rmH {k : Nat} {A : Around} (r : Room k A) (h : Option Value) : RmH k (A.mark h) := ⟨r.dp, r.un⟩
theorem RmH.units {k : Nat} {A : Around} (r : RmH k A) : A.units + 64 < cLine := by have := r.un; omega
theorem RmH.u80 {k : Nat} {A : Around} (r : RmH k A) : A.units + 80 < cLine := by have := r.un; omega
theorem RmH.u65 {k : Nat} {A : Around} (r : RmH k A) : A.units + 65 < cLine := by have := r.un; omega
/-- the exception that is handled is tracked, its context is None -/
def HotA (A : Around) (H : Hp) : Prop := ∃ (a : Addr) (oe : Obj) (u : HO) (vs : Array Value), A.handled = some (.ref a) ∧ H a = some (.frz oe u) ∧ oe.data = .fields vs ∧ vs[2]? = some .none
def HotZ (X : Cx) : Prop := HotA X.A X.H_0
theorem hot_at {X : Cx} {pins : List (Addr × Obj)} {σ : L2.St} {H : Hp} {s : Shared} (h : HotZ X) (I : Inv X pins σ H s) : ∃ x1, HotX.HotAt X.A x1 s.heap := by
  obtain ⟨a, oe, u, vs, h1, h2, h3, h4⟩ := h
  obtain ⟨q, _⟩ := I.hok a _ (I.base.frzs a oe u h2)
  exact ⟨a, h1, oe, vs, q, h3, h4⟩
structure FnT (P : Program) (w : World) (K : PySem.W.Frag) (mg : Str → Option Value) (base : Heap) (k : Nat) (f : Addr) (fd : FuncData) (ps : List Str) (sp : Sp) : Prop where
  len : ∀ vs H Q E, sp vs H Q E → vs.length = ps.length
  run : ∀ (A : Around) (outer : List Env) (s : Shared) (H : Hp) (args : Args) (us : List Value) (vs : List V) (Q : VK) (E : XK), A.guards = some [] → RmH k A → HotA A H → Env0 P w K mg base A outer s H → BindsTo s fd args (ps.zip us) → Vals vs us → sp vs H Q E →
    codeAny (model P w) A (.call (.ref f) args) (CR (L2N.CX P w) outer P w H s Q E) s
/-- the context of such a def's body -/
def cxT (P : Program) (w : World) (K : PySem.W.Frag) (mg : Str → Option Value) (base : Heap) (N : List Str) (qual : Str) (scope : Scope) (f : Addr) (cd : Value) (A : Around) (outer : List Env) (s : Shared) (H : Hp) (E : XK) : Cx :=
  { cxOf (L2N.CX P w) P w K mg base N qual scope f cd A outer s H E with calm := false }
section
variable {P : Program} {w : World} {K : PySem.W.Frag} {mg : Str → Option Value} {base : Heap} {x qual : Str} {params : Arguments} {body : List Stmt} {scope : Scope} {dvs : List V} {kws : List (Str × V)} {f : Addr} {fd : FuncData} {N ps : List Str} {k : Nat} {sp : Sp}
theorem fnT_gen (F : FunD K x qual params body scope dvs kws f fd) (S : FnScope N ps scope) (len : ∀ vs H Q E, sp vs H Q E → vs.length = ps.length)
    (hbody : ∀ (cdv : Value) (A : Around) (outer : List Env) (s : Shared) (H : Hp) (vs : List V) (Q : VK) (E : XK), A.guards = some [] → RmH k (A.deeper (envOfC qual scope s.heap.objs.size f cdv)) → HotA A H → sp vs H Q E →
      ∃ t, PSs (cxT P w K mg base N qual scope f cdv A outer s H E) body t ∧ t { nx := fun _ H' => Q .non H', rt := Q } (L2.start N vs) H) : FnT P w K mg base (k + 1) f fd ps sp := by
  obtain ⟨oc, od, dV, kV, doc, pm, an, cdv, ct, osl, rfl, lk, hcd, _, _⟩ := F.ex
  refine ⟨len, fun A outer s H args us vs Q E hg hr hot e0 hb r hsp => ?_⟩
  have kin : K.In s.heap := e0.mod.kin.keeps fun b o e => (e0.bs b o e).1
  refine codeAny_call_function (by have := hr.dp; omega) (kin _ _ lk) rfl S.co S.gen rfl (PySem.W.codeRec_of kin hcd) (hb _ _ _ _ ?_)
  refine wpAny_newFunctionEnv_cells S.kind (fun y hy => ?_) fun env he s1 x1 => ?_
  · rcases S.par y.1 (List.of_mem_zip hy).1 with q | q
    · exact .inl q
    · exact .inr ⟨q, PySem.W.cellsFrom_some _ _ _ (.inl q)⟩
  subst he
  refine ⟨(e0.mod.nolimit.keeps fun b o e => (e0.bs b o e).1).keeps x1.toInCall.keep, codeAny_func ?_⟩
  obtain ⟨t, ht, hq⟩ := hbody cdv A outer s H vs Q E hg (hr.deeper _) hot hsp
  have e1 : Env0 P w K mg base { A with handled := none } outer s H := ⟨e0.frames, e0.mod, e0.bs, e0.bsz, e0.funs, e0.frf, e0.hok, e0.bare⟩
  have J := inv_start (CX := L2N.CX P w) (P := P) (w := w) (N := N) (E := E) S (A := { A with handled := none }) rfl e1 (len _ _ _ _ hsp) r x1
  have I : Inv (cxT P w K mg base N qual scope f cdv A outer s H E) [] (L2.start N vs) H s1 :=
    ⟨⟨J.ok.mod, J.ok.kind, J.ok.glob, J.ok.blt, J.ok.above, J.ok.inj, J.ok.has, J.ok.cab, (fun z => Bool.noConfusion (show false = true from z)), Around.frames_deeper e0.frames, J.ok.stk, J.ok.exf, J.ok.bs, J.ok.bsz, J.ok.noex, J.ok.exfs, J.ok.funs, J.ok.frf⟩, J.os, J.bare, J.base, J.loc, J.cell, J.free, J.freeC, J.pin, J.hok, J.len⟩
  refine wpAny_mono (ht.run [] s1 (L2.start N vs) H _ I hq) (fun fl s' hs => ?_) fun e s' hs => hs
  cases fl with
  | ret u =>
    obtain ⟨v, σ', H', J, rv, q⟩ := hs
    exact ⟨v, H', J.os, J.bare, J.base, J.hok, rv, q⟩
  | next =>
    obtain ⟨σ', H', J, q⟩ := hs
    exact ⟨V.non, H', J.os, J.bare, J.base, J.hok, rfl, q⟩
  | brk =>
    obtain ⟨_, _, _, q⟩ := hs
    exact False.elim q
  | cont =>
    obtain ⟨_, _, _, q⟩ := hs
    exact False.elim q
theorem okH {wf : WF} {wd : WXd → WS} (F : FunD K x qual params body scope dvs kws f fd) (S : FnScope N ps scope) (len : ∀ xs P, wf xs P → xs.length = ps.length)
    (hb : ∀ (cdv : Value) (A : Around) (outer : List Env) (s : Shared) (H : Hp) (E : XK), A.guards = some [] → RmH k (A.deeper (envOfC qual scope s.heap.objs.size f cdv)) → HotZ (cxT P w K mg base N qual scope f cdv A outer s H E) →
      ∃ t, PBd (Z0 mg) (cxT P w K mg base N qual scope f cdv A outer s H E) body t (wd noX))
    (hw : ∀ xs P, wf xs P → wd noX (endsP P) (startN N.length xs)) : FnT P w K mg base (k + 1) f fd ps (spG ⟨K, P, w⟩ mg (wfP wf)) := by
  refine fnT_gen F S (fun vs H Q E ⟨M, as, A, B, P, PX, _, ha, _, ⟨xs, e, h⟩, _⟩ => by rw [ha.length, e, dts_len]; exact len xs _ h) fun cdv A outer s H vs Q E hg hr hot ⟨M, as, C, B, P', PX, ml, ha, nd, ⟨xs, e, hwf⟩, q1, q2⟩ => ?_
  subst e
  have hwd := hw _ _ hwf
  rw [← startS_dts] at hwd
  obtain ⟨t, ht⟩ := hb cdv A outer s H E hg hr hot
  have R0 : RepS (⟨K, P, w⟩ : KW) (frmG M H vs B) [] M H (L2.start N vs) (startS N.length (dts xs)) := rep_start ml ha nd
  refine ⟨t, ht.p, ht.i _ [] M _ H _ ⟨R0, fun _ _ _ _ _ _ _ _ _ _ z => z.elim⟩ _ hwd _ ⟨fun ρ' M' σ' H' r e => ?_, fun y ρ' v M' σ' H' r ry e => ?_, fun ρ' M' σ' H' r e => e.elim, fun ρ' M' σ' H' r e => e.elim, fun tr ρ' v M' σ' H' r e => e.elim⟩⟩
  · exact ret_ok ha q1 (r.push .non) (lents_dts xs 0) e
  · exact ret_ok ha q1 (r.push ry) (lents_dts xs 0) e
end
structure CalT (P : Program) (w : World) (K : PySem.W.Frag) (mg : Str → Option Value) (base : Heap) (x : Str) (k : Nat) (ps : List Str) (wf : WFn) (f : Addr) (fd : FuncData) : Prop where
  g : FnT P w K mg base k f fd ps (spG ⟨K, P, w⟩ mg wf)
  m : mg x = some (.ref f)
  kp : PySem.W.keepIn K (.ref f) = true
  bd : Binds K fd ps []
/-- the call of a hot def, the first thing that is done -/
def tCallT (a : Addr) (oe : Obj) (sp : Sp) (i : Nat) : TE := fun σ H Q => H a = some (.frz oe frzU) ∧ tVar i σ H fun v H1 => H1 = H ∧ sp [v] H1 Q fun _ _ _ => False
section
variable {Z : XC} {X : Cx} {a : Addr} {oe : Obj} {k : Nat} {f : Addr} {fd : FuncData} {ps : List Str} {x : Str} {pn : List (Addr × Obj)} {p p2 pos : Pos} {tt : TT} {te tb : TE} {wt : WT} {we wb : WE} {e b c : Expr}
theorem CalT.hot {wf : WF} (C : CalT X.prog X.w X.K X.mg X.base x k ps (wfP wf) f fd) (hc : PXN.CtxN oe) (hf : ∃ fv, oe.data = .fields fv) (hg : X.A.guards = some []) (hr : RmH k (X.suite a pn).A) (i : Nat) {y : Str} (hN : X.N[i]? = some y := by rfl) (hv : Vis X.env.scope y := by first | exact Or.inl rfl | exact Or.inr (Or.inl rfl) | exact Or.inr (Or.inr rfl)) (hd : (y == ("__debug__" : Str)) = false := by decide) (hcd : (y == ("__classdict__" : Str)) = false := by decide)
    (gl : Gl X x := by rfl) (hdb : (x == ("__debug__" : Str)) = false := by decide) (he : starEach [.Name y p2] X.env = (false, eval (.Name y p2) X.env) :: starEach [] X.env := by rfl) (hpl : (backTo pos (starEach [] X.env)).any (·.1) = false := by rfl) :
    PEh a oe Z (X.suite a pn) (.Call (.Name x p) [.Name y p2] [] pos) (tCallT a oe (spG X.kw X.mg (wfP wf)) i) (wCall wf [] (wCons (wVar i) wNil)) := by
  refine ⟨⟨fun pins s σ H Q I h => wpAny_Call_Name_kw (ld_glob I gl C.m ?_ hdb)⟩, fun F G M σ H ρ hh R P hw Q kk => ?_⟩
  · have pv : PE (X.suite a pn) (.Name y p2) (tVar i) := pe_var (X := X.suite a pn) hN hv hd hcd
    obtain ⟨h0, h⟩ := h
    refine PySem.W.callWith_K (h₀ := X.base) I.ok.mod.kin C.kp (thn ((pa_cons (X := X.suite a pn) pv pa_nil he).run pos pins s σ H (fun vs H1 => ∃ v, vs = [v] ∧ H1 = H ∧ spG X.kw X.mg (wfP wf) [v] H1 Q fun _ _ _ => False) I ?_) fun us s1 ⟨vs, H1, I1, r, v, ev, e1, q⟩ => ⟨I1.kIn, ?_⟩) he hpl
    · obtain ⟨v, e1, e2, e3⟩ := h
      exact ⟨v, e1, v, rfl, e2, e3⟩
    · subst ev
      subst e1
      have hb := C.bd s1 us I1.kIn (by rw [List.append_nil, ← r.length]; exact C.g.len _ _ _ _ q)
      rw [List.append_nil] at hb
      obtain ⟨fv, hfv⟩ := hf
      refine wpAny_call (codeAny_mono (C.g.run (X.suite a pn).A X.stack s1 H1 ⟨us, []⟩ us [v] Q _ hg hr ⟨a, oe, frzU, fv, rfl, h0, hfv, hc fv hfv⟩ I1.env0 hb r q) fun r s' hq => ?_)
      match r, hq with
      | .ok (.ret u), hq => exact I1.after hq
      | .ok .next, hq => exact False.elim hq
      | .ok .brk, hq => exact False.elim hq
      | .ok .cont, hq => exact False.elim hq
      | .error e, hq => exact L2N.passAt takesN0 σ pins H1 s1 e s' I1 hq
  · obtain ⟨z, e1, e2⟩ := hw
    obtain ⟨v, ev, rv⟩ := R.r.dat e1
    exact ⟨hh, v, ev, rfl, call_P R (.cons rv .nil) e2 kk⟩
theorem h_cmp {Y : Cx} {op : CmpOp} {r : R2} {f : PyData → PyData → Option PyData} (ho : OpR Y (compareOp op) r) (l : LiftR Y.kw r f) (ha : PEh a oe Z Y e te we) (hb : PEd Z Y b tb wb) (hm : behindInMarks op b = false) : PTh a oe Z Y (.Compare e [op] [b] pos) (tTest (tOp r te tb)) (wTest (wBin f we wb)) := by
  refine ⟨pt_cmpR ho ha.p hb.p hm, fun F G M σ H ρ hh R P hw Q k => ?_⟩
  refine ha.i F G M σ H ρ hh R _ hw _ fun x ρ1 v M1 H1 R1 r1 hw => ?_
  refine hb.i F ((v, .d x) :: G) M1 σ H1 ρ1 (R1.push r1) _ hw _ fun y ρ2 u M2 H2 R2 r2 ⟨z, e, bb, eb, q⟩ => ?_
  obtain ⟨R3, r3⟩ := R2.r.popD
  refine l M2 H2 x y z v u R2.ml e r3 r2 _ fun v' H' sm r' => ?_
  subst eb
  cases r'
  exact ⟨bb, rfl, k bb ρ2 M2 H' ⟨R3.same sm, R1.cx⟩ q⟩
theorem h_if {Y : Cx} (h : PTh a oe Z Y e tt wt) (hb : PEd Z Y b te we) (hc : PEd Z Y c tb wb) : PEh a oe Z Y (.IfExp e b c pos) (tIf tt te tb) (wIf wt we wb) := by
  refine ⟨pe_ifExp h.p hb.p hc.p, fun F G M σ H ρ hh R P hw Q k => ?_⟩
  refine h.i F G M σ H ρ hh R _ hw _ fun bb ρ1 M1 H1 R1 q => ?_
  cases bb with
  | true =>
    rw [if_pos rfl] at q
    show te σ H1 Q
    exact hb.i F G M1 σ H1 ρ1 R1 _ q _ k
  | false =>
    rw [if_neg Bool.false_ne_true] at q
    show tb σ H1 Q
    exact hc.i F G M1 σ H1 ρ1 R1 _ q _ k
theorem h_ret {Y : Cx} (h : PEh a oe Z Y e te we) : PBh a oe Z Y [.Return (some e) pos] (tSeq (tRet te) tNext) (wRet we) := by
  refine ⟨pss_cons (ps_ret h.p) pss_nil, fun F G M σ H ρ hh R E hw D cn => ?_⟩
  exact h.i F G M σ H ρ hh R _ hw _ fun x ρ1 v M1 H1 R1 r1 q => cn.rt x ρ1 v M1 σ H1 R1.r r1 q
end
end Dat
set_option Elab.async false
set_option linter.all false
set_option maxRecDepth 100000
set_option maxHeartbeats 4000000
/-! isinstance of exceptions that stand for data, their fields. -/
namespace PySem.W
open PySem PySem.Spec PySem.Calls PyProof.Rows
section
variable {prog : Program} {w : World} {A : Around} {E : Value → Shared → Prop} {s : Shared} {K : Frag} {x D : Addr} {ox : Obj}
theorem xi_class {od : Option Obj} {Q : Option Value → Shared → Prop} (C : L2.ExcC K D) (hf : findObj K D od "__class__" = some (.bind (.builtin "getset_descriptor.__get__") (.builtin "object.__class__")))
    (X : K.In s.heap) (I : InstAt s.heap x ox D od) (h : Q (some (.ref D)) { s with toks := s.toks + 1 }) : wpAny (model prog w) A (getAttr? (.ref x) "__class__") Q E s := by
  obtain ⟨hp, g, d, t, os⟩ := s
  have La := I.type (M := model prog w)
  have Lb := looks_findIn (M := model prog w) X C.hg
  have Lc := looks_findIn (M := model prog w) X C.hk
  have Ld := looks_find (M := model prog w) X I hf
  have sb : Looks (model prog w) hp (isInstance (.ref x) (.type "BaseException")) true := La.andThen (looks_subIn X C.hs)
  have y0 : (false && onTheHeap (Value.builtin "BaseException.__getattribute__")) = false := rfl
  have y2 : (Value.builtin "BaseException.__getattribute__" == Value.builtin "object.__getattribute__") = false := by decide +kernel
  have y1 : (onTheHeap (Value.ref D) && Value.builtin "BaseException.__getattribute__" == Value.builtin "object.__getattribute__") = false := by rw [y2]; rfl
  unfold getAttr? getAttrBy? getAttrBy
  refine wpAny_bind (wpAny_mkText (wpAny_bind (wpAny_attempt (wpAny_holding (wpAny_bind (La.at (wpAny_bind (Lb.at ?_))))))))
  show wpAny _ _ (if (onTheHeap (Value.ref D) && Value.builtin "BaseException.__getattribute__" == Value.builtin "object.__getattribute__") = true then _ else _) _ _ _
  rw [y1, if_neg Bool.false_ne_true]
  unfold getAttrByItsOwn hookBefore
  refine wpAny_bind ?_
  rw [if_pos (show onTheHeap (Value.ref D) = true from rfl)]
  refine Lc.at ?_
  refine wpAny_bind (wpAny_attempt (wpAny_holding ?_))
  unfold callGetattribute
  rw [y0, if_neg Bool.false_ne_true]
  unfold boundAndCalled
  rw [PySem.F.excAttr_ValueError.ga.bind (.ref x)]
  refine wpAny_bind (wpAny_pure ?_)
  show wpAny _ _ (call (.builtin "BaseException.__getattribute__") [.ref x, .str "__class__" t]) _ _ _
  refine wpAny_call (codeAny_call_builtin PySem.F.excAttr_ValueError.ga.plain PySem.F.entry_bexc_ga ?_)
  refine @check_slot (model prog w) _ _ ⟨hp, g, d, t + 1, os⟩ "BaseException.__getattribute__" "BaseException" "__getattribute__" (.ref x) [.str "__class__" t] [] _ (by decide +kernel) (by decide +kernel) sb (PySem.F.args_bexc_ga (.ref x) (.str "__class__" t)) ?_
  unfold Builtin.«object.__getattribute__»
  refine wpAny_bind (wpAny_of_eq (a := ((Value.ref x : Value), [Value.str "__class__" t])) (by first | rfl | (simp only [slotArgs]; rfl)) ?_)
  refine wpAny_bind (wpAny_pure (wpAny_bind (La.at (wpAny_bind (Ld.at ?_)))))
  show wpAny _ _ (holding [Value.builtin "object.__class__"] (call (.builtin "getset_descriptor.__get__") [.builtin "object.__class__", .ref x, .ref D]) >>= ret) _ _ _
  refine wpAny_bind (wpAny_holding (wpAny_call (class_get (s := ⟨hp, g, d, t + 1, os⟩) (ox := ox) (od := od) X I C.hm ?_)))
  refine wpAny_pure ?_
  show wpAny _ _ (handedOut (.ref D)) _ _ _
  rw [handedOut_of (v := .ref D) rfl]
  first
    | exact wpAny_pure (wpAny_pure h)
    | exact wpAny_pure h
    | exact wpAny_pure (wpAny_bind (wpAny_pure (wpAny_pure h)))
theorem xi_find (C : L2.ExcC K D) (od : Option Obj) : findObj K D od "__class__" = some (.bind (.builtin "getset_descriptor.__get__") (.builtin "object.__class__")) := by
  have hc : (clsIn K D).isSome = true := by
    obtain ⟨cd, hc, _⟩ := any_some C.hd
    rw [hc]
    rfl
  cases od with
  | none => exact findObj_dataN hc C.ha C.hn C.ht
  | some od => exact findObj_data hc C.ha C.hn C.ht
theorem xi_kit {od : Option Obj} (C : L2.ExcC K D) : KitX K (.ref x) (.ref D) (fun h => InstAt h x ox D od) where
  ty := fun _ _ _ I => I.type
  it := fun _ _ X _ => by
    obtain ⟨cd, hc, _⟩ := any_some C.hd
    unfold clsIn at hc
    split at hc
    · rename_i z1 z2 z3 z4 ho
      intro A1 Q1 E1 s1 k q
      unfold isType loadHead
      exact wpAny_bind (wpAny_loadPart (k _ _ (X _ _ ho)) (wpAny_pure q))
    · cases hc
  ne := (handS_kitx_exc (x := x) (ox := ox) C.hg C.hk C.hs C.hd C.ha C.hn C.ht C.hm).ne
  ca := fun X I k => xi_class C (xi_find C od) X I k
end
end PySem.W
namespace Dat
open PySem PySem.Spec PyProof.Rows L2
/-- where an exception stands -/
def XAt (H : Hp) (a : Addr) (D : Addr) (fs : List (Str × V)) : Prop := ∃ oe u, H a = some (.frz oe u) ∧ oe.cls = .ref D ∧ (∃ fv, oe.data = .fields fv) ∧ ((fs = [] ∧ oe.dict = none) ∨ ∃ dd, oe.dict = some dd ∧ H dd = some (.xd fs))
theorem XAt.inst {X : Cx} {pins : List (Addr × Obj)} {σ : L2.St} {H : Hp} {s : Shared} {a D : Addr} {fs : List (Str × V)} (I : Inv X pins σ H s) (h : XAt H a D fs) : ∃ oe od, PySem.W.InstAt s.heap a oe D od ∧ ∀ (f : Str) (v : V), fs.lookup f = some v → ∃ od' u, od = some od' ∧ PySem.W.lookIn f od' = some (some u) ∧ RelV v u := by
  obtain ⟨oe, u, e1, e2, ⟨fv, e3⟩, e4⟩ := h
  obtain ⟨ha, _⟩ := I.hok a _ e1
  have nc : PySem.W.notCls oe = true := by unfold PySem.W.notCls; rw [e3] <;> rfl
  rcases e4 with ⟨e5, e6⟩ | ⟨dd, e5, e6⟩
  · subst e5
    exact ⟨oe, none, ⟨ha, e2, nc, by rw [e6]; trivial⟩, fun f v z => by cases z⟩
  · have hx : ObjOk X.prog X.w H s.heap dd (.xd fs) := I.hok dd _ e6
    obtain ⟨mA, hns, hr⟩ := hx
    obtain ⟨od, ho, hl⟩ := lookIn_ns hns
    refine ⟨oe, some od, ⟨ha, e2, nc, by rw [e5]; exact ho⟩, fun f v z => ?_⟩
    obtain ⟨u, hu, ru⟩ := RelO.some_of (v := v) (o := mA f) (by rw [← z]; exact hr f)
    exact ⟨od, u, rfl, by rw [hl, hu], ru⟩
/-- isinstance(e, c) -/
def rIsX (K : PySem.W.Frag) : List V → Hp → VK → Prop := fun xs H Q => ∃ (a D : Addr) (fs : List (Str × V)) (c : V) (cv : Value) (b : Bool), xs = [.ref a, c] ∧ (∀ u, RelV c u → u = cv) ∧ XAt H a D fs ∧ ExcC K D ∧ PySem.W.kitOne K (.ref D) cv = some b ∧ Q (.bl b) H
section
variable {Z : XC} {K : KW} {X : Cx} {a e o : Expr} {es : List Expr} {ta te to : TE} {wa we wo : WE} {pos apos : Pos}
theorem call_isX : CallR X (.builtin "isinstance") (rIsX X.K) := by
  intro pins s σ H xs us Q I r h
  obtain ⟨a, D, fs, c, cv, b, rfl, hcv, hx, C, e, q⟩ := h
  cases r with
  | cons rx rr =>
    cases rr with
    | cons rt rr =>
      cases rr
      cases rx
      have ec := hcv _ rt
      subst ec
      obtain ⟨oe, od, J, _⟩ := hx.inst I
      exact PySem.W.kia_one (PySem.W.xi_kit C) I.kIn J e (fun z => nomatch z) fun tk => ⟨.bl b, H, I.kept (t' := tk) fun _ _ z => z, rfl, q⟩
theorem xat_rp {M : MS} {H : Hp} {v : V} {c : Str} {kvs : List (PyData × PyData)} (r : Rp K M H v (.dict ((.str c, .none) :: kvs))) : ∃ (a : Addr) (fs : List (Str × PyData)) (vs : List V), v = .ref a ∧ kvs = fs.map (fun p => (.str p.1, p.2)) ∧ XAt H a (He.ga K.k c) ((fs.map (·.1)).zip vs) ∧ RpAll K M H vs (fs.map (·.2)) := by
  generalize hd : PyData.dict ((.str c, .none) :: kvs) = d at r
  cases r with
  | @exc a oe u c' fs vs kvs' e1 h1 h2 h3 h4 =>
    cases hd
    cases e1
    refine ⟨a, fs, vs, rfl, rfl, ⟨oe, u, h1, h2.1, h2.2, ?_⟩, h4⟩
    rcases h3 with ⟨e1, e2⟩ | h3
    · subst e1
      exact .inl ⟨rfl, e2⟩
    · exact .inr h3
  | @scr a ns _ e1 h1 =>
    cases hd
    cases ns with
    | nil => cases e1
    | cons n ns => cases e1
  | ins e1 =>
    cases hd
    cases e1
  | _ => cases hd
/-- what the classes say of isinstance with cv -/
def TabC (K : PySem.W.Frag) (cv : Value) (tb : List (Str × Bool)) : Prop := ∀ c b, tb.lookup c = some b → ExcC K (He.ga K c) ∧ PySem.W.kitOne K (.ref (He.ga K c)) cv = some b
def fIsE (tb : List (Str × Bool)) : PyData → Option PyData
  | .dict ((.str c, .none) :: _) => (tb.lookup c).map .bool
  | _ => none
theorem fIsE_some {tb : List (Str × Bool)} {x z : PyData} (h : fIsE tb x = some z) : ∃ c kvs b, x = .dict ((.str c, .none) :: kvs) ∧ tb.lookup c = some b ∧ z = .bool b := by
  unfold fIsE at h
  split at h
  · obtain ⟨b, h1, h2⟩ := Option.map_eq_some_iff.mp h
    exact ⟨_, _, b, rfl, h1, h2.symm⟩
  · cases h
theorem isE_use {tb : List (Str × Bool)} {cv : Value} {c : V} (T : TabC K.k cv tb) (hcv : ∀ u, RelV c u → u = cv) {M : MS} {H : Hp} {v : V} {x z : PyData} (e : fIsE tb x = some z) (r : Rp K M H v x) {Q : VK} (q : ∀ b, z = .bool b → Q (.bl b) H) : rIsX K.k [v, c] H Q := by
  obtain ⟨cn, kvs, b, rfl, h1, h2⟩ := fIsE_some e
  obtain ⟨a, fs, vs, rfl, _, hx, _⟩ := xat_rp r
  obtain ⟨t1, t2⟩ := T cn b h1
  exact ⟨a, _, _, c, cv, b, rfl, hcv, hx, t1, t2, q b h2⟩
theorem d_isB {tb : List (Str × Bool)} {T : String} {x2 : Str} {p p2 : Pos} (hT : TabC X.K (.type T) tb) (hm : X.mg "isinstance" = none) (hm2 : X.mg x2 = none) (hv2 : bootBuiltins x2 = some (.type T)) (ha : PEd Z X a ta wa) (hg : Gl X "isinstance" := by rfl) (hg2 : Gl X x2 := by rfl)
    (hn : x2 ≠ "__name__" := by decide) (hd : (x2 == ("__debug__" : Str)) = false := by decide)
    (he : starEach [a, .Name x2 p2] X.env = (false, eval a X.env) :: starEach [.Name x2 p2] X.env := by rfl) (he2 : starEach [.Name x2 p2] X.env = (false, eval (.Name x2 p2) X.env) :: starEach [] X.env := by rfl) (hpl : (backTo pos (starEach [.Name x2 p2] X.env)).any (·.1) = false := by rfl) :
    PEd Z X (.Call (.Name "isinstance" p) [a, .Name x2 p2] [] pos) (tCB (rIsX X.K) (tCons ta (tCons (tC (.ty T)) tNil))) (wUn (fIsE tb) wa) := by
  refine ⟨pe_callB call_isX hg hm (by decide +kernel) (pa_cons ha.p (pa_cons (pe_bltn hg2 hm2 hv2 rfl hn hd) pa_nil he2) he) (by decide) (by decide) he hpl, fun F G M σ H ρ R P hw Q k => ?_⟩
  refine ha.i F G M σ H ρ R _ hw _ fun x ρ1 v M1 H1 R1 r1 ⟨z, e, q⟩ => ?_
  exact isE_use (c := .ty T) hT (fun u ru => ru) e r1 fun b eb => k _ ρ1 _ M1 H1 R1 (.bl b) (eb ▸ q)
theorem d_isC {tb : List (Str × Bool)} {x2 : Str} {p p2 : Pos} (hT : TabC X.K (.ref (He.ga X.K x2)) tb) (hm : X.mg "isinstance" = none) (hm2 : X.mg x2 = some (.ref (He.ga X.K x2))) (ha : PEd Z X a ta wa) (hg : Gl X "isinstance" := by rfl) (hg2 : Gl X x2 := by rfl)
    (hd : (x2 == ("__debug__" : Str)) = false := by decide)
    (he : starEach [a, .Name x2 p2] X.env = (false, eval a X.env) :: starEach [.Name x2 p2] X.env := by rfl) (he2 : starEach [.Name x2 p2] X.env = (false, eval (.Name x2 p2) X.env) :: starEach [] X.env := by rfl) (hpl : (backTo pos (starEach [.Name x2 p2] X.env)).any (·.1) = false := by rfl) :
    PEd Z X (.Call (.Name "isinstance" p) [a, .Name x2 p2] [] pos) (tCB (rIsX X.K) (tCons ta (tCons (tC (.ref (He.ga X.K x2))) tNil))) (wUn (fIsE tb) wa) := by
  refine ⟨pe_callB call_isX hg hm (by decide +kernel) (pa_cons ha.p (pa_cons (pe_glob hg2 hm2 rfl hd) pa_nil he2) he) (by decide) (by decide) he hpl, fun F G M σ H ρ R P hw Q k => ?_⟩
  refine ha.i F G M σ H ρ R _ hw _ fun x ρ1 v M1 H1 R1 r1 ⟨z, e, q⟩ => ?_
  exact isE_use (c := .ref (He.ga X.K x2)) hT (fun u ru => ru) e r1 fun b eb => k _ ρ1 _ M1 H1 R1 (.bl b) (eb ▸ q)
/-! ### e.f -/
def lookF (f : Str) : List (PyData × PyData) → Option PyData
  | (.str g, y) :: kvs => if f = g then some y else lookF f kvs
  | _ => none
def fXf (cs : List Str) (f : Str) : PyData → Option PyData
  | .dict ((.str c, .none) :: kvs) => if c ∈ cs then lookF f kvs else none
  | _ => none
theorem lookF_fs (f : Str) : ∀ fs : List (Str × PyData), lookF f (fs.map fun p => (.str p.1, p.2)) = fs.lookup f
  | [] => rfl
  | (g, y) :: fs => by
    show (if f = g then some y else lookF f (fs.map fun p => (.str p.1, p.2))) = ((g, y) :: fs).lookup f
    rw [lookF_fs f fs, List.lookup]
    by_cases h : f = g
    · subst h; simp
    · have h2 : (f == g) = false := by simpa using h
      rw [if_neg h, h2]
def ClsF (K : PySem.W.Frag) (cs : List Str) (f : Str) : Prop := ∀ c ∈ cs, XfC K (He.ga K c) ∧ PySem.W.findIn K (.ref (He.ga K c)) f = some none
def rXf (K : PySem.W.Frag) (f : Str) : V → Hp → VK → Prop := fun x H Q => ∃ (a D : Addr) (fs : List (Str × V)) (v : V), x = .ref a ∧ XAt H a D fs ∧ XfC K D ∧ PySem.W.findIn K (.ref D) f = some none ∧ fs.lookup f = some v ∧ Q v H
theorem d_xf {cs : List Str} {f : Str} (hC : ClsF X.K cs f) (ha : PEd Z X a ta wa) (hb : attributeBase a f X.env (eval a X.env) = eval a X.env := by rfl) : PEd Z X (.Attribute a f pos) (tUn (rXf X.K f) ta) (wUn (fXf cs f) wa) := by
  refine ⟨⟨fun pins s σ H Q I h => ?_⟩, imp_un (fun M H x z v ml e r Q k => ?_) ha.i⟩
  · refine attr_of hb (thn (ha.p.run pins s σ H _ I h) fun u s1 ⟨x, H1, I1, rx, b, D, fs, v, ex, hx, T, hno, hl, q⟩ => ?_)
    subst ex
    obtain rfl : u = Value.ref b := rx
    obtain ⟨oe, od, J, hf⟩ := hx.inst I1
    obtain ⟨od', u, e1, e2, ru⟩ := hf f v hl
    subst e1
    exact HandSPX.exc_get I1.kIn J T.ga T.gg T.exC (PySem.W.findObj_own T.hdC hno rfl e2) (handed_of ru) ⟨v, H1, I1.tok _, ru, q⟩
  · unfold fXf at e
    split at e
    · rename_i c kvs
      split at e
      · rename_i hc
        obtain ⟨b, fs, vs, rfl, e1, hx, ra⟩ := xat_rp r
        subst e1
        rw [lookF_fs] at e
        obtain ⟨w, hw, rw'⟩ := lookup_rp ra e
        exact ⟨b, _, _, w, rfl, hx, (hC c hc).1, (hC c hc).2, hw, k w H (Same.refl H) rw'⟩
      · cases e
    · cases e
end
end Dat
set_option Elab.async false
set_option linter.all false
set_option maxRecDepth 100000
set_option maxHeartbeats 4000000
/-! l.count(x), l.index(x), for c in a text. -/
namespace Dat
open PySem PySem.Spec PyProof.Rows L2
section
variable {Z : XC} {K : KW} {X : Cx} {tg a b c e o : Expr} {ta tb tc te tl to : TE} {wa wb wc we wo : WE} {pos apos : Pos}
def rCntD (K : KW) : V → List V → Hp → VK → Prop := fun x xs H Q => ∃ (a : Addr) (y : V) (d : PyData) (ds : List PyData), x = V.ref a ∧ xs = [y] ∧ Dp K H (V.ref a) (.list ds) ∧ Dp K H y d ∧ SeqAt.shaped (.list ds) = true ∧ SeqAt.shaped d = true ∧ Q (.int ((ds.countP fun y => PyData.eqv y d : Nat) : Int)) H
theorem mt_cntD (hu : X.A.units + 65 < cLine) : MtR X "list.count" (rCntD X.kw) := by
  intro pins s σ H x xs v us Q I rx rxs h
  obtain ⟨a, y, d, ds, rfl, rfl, hl, hy, sl, sd, q⟩ := h
  cases rx
  cases rxs with
  | cons ry rt =>
    rename_i uy ut
    cases rt
    obtain ⟨bs, r1⟩ := Dp.reads I d y uy hy ry
    have hxs : PyData.canLayAll0 ds = true := SeqAt.canLay_of_shaped sl
    have hroom : X.A.units + 1 + min (PyData.depthAll ds) d.depth < cLine := room_in_shaped sd hu
    cases hl with
    | lst hs ha =>
      obtain ⟨its, rv, ⟨⟨cls, dd, data, sls⟩, n, ho, hc, hdn, hdt⟩, hlen⟩ := I.list hs
      simp only at hc hdt
      subst hc hdt
      obtain ⟨as, h4⟩ := Dp.readsAll I ds _ its ha rv
      have hmap : its.map (SeqAt.readOf s.heap) = ds := SeqAt.readsAll_map ds its as hxs h4
      refine call_meets PySem.F.slot_list_count ⟨_, ho, rfl⟩ PySem.F.entry_list_count (PySem.F.args_list_count_2 _ _)
        (SeqAt.list_countAt a its.toArray n dd sls uy (fun u => PyData.eqv (SeqAt.readOf s.heap u) d)) ⟨ho, SeqAt.items_eqAt (vs := its.toArray) (show ReadsAll s.heap its.toArray.toList ds as from h4) r1 hxs (SeqAt.canLay_of_shaped sd) hroom, ?_⟩
      have ec : its.toArray.toList.countP (fun u => PyData.eqv (SeqAt.readOf s.heap u) d) = ds.countP fun y => PyData.eqv y d := by
        rw [← hmap, List.countP_map]
        rfl
      refine ⟨.int ((ds.countP fun y => PyData.eqv y d : Nat) : Int), H, I.tok _, ⟨s.toks, ?_⟩, q⟩
      rw [ec]
def wM2 (f : PyData → PyData → Option PyData) (wo we : WE) : WE := fun ρ P => wo ρ fun x ρ1 => (∃ ds, x = .list ds) ∧ we ρ1 fun y ρ2 => ∃ z, f x y = some z ∧ P z ρ2
theorem imp_m2 {r : V → List V → Hp → VK → Prop} {f : PyData → PyData → Option PyData} (l : LiftM K r f) (ho : ImpE Z K to wo) (he : ImpE Z K te we) : ImpE Z K (tBM K "list" r to (tCons te tNil)) (wM2 f wo we) := by
  intro F G M σ H ρ R P hw Q k
  refine ho F G M σ H ρ R _ hw _ fun x ρ1 v M1 H1 R1 r1 ⟨⟨ds, es⟩, hw⟩ => ?_
  subst es
  have r1' := r1
  cases r1 with
  | lst n1 e1 a1 =>
    refine ⟨.inl ⟨rfl, _, SqL.of e1⟩, he F ((_, .d (.list ds)) :: G) M1 σ H1 ρ1 (R1.push r1') _ hw _ fun y ρ2 u M2 H2 R2 r2 ⟨z, ez, q⟩ => ?_⟩
    obtain ⟨R3, r3⟩ := R2.r.popD
    exact l M2 H2 _ y z _ u R2.ml ez r3 r2 Q fun v' H' sm r' => k z ρ2 v' M2 H' ⟨R3.same sm, R1.cx⟩ r' q
def fCnt : PyData → PyData → Option PyData
  | .list ds, d => if (SeqAt.shaped (.list ds) && SeqAt.shaped d) = true then some (.int ((ds.countP fun y => PyData.eqv y d : Nat) : Int)) else none
  | _, _ => none
theorem l_cnt : LiftM K (rCntD K) fCnt := by
  intro M H x y z v u ml e rx ry Q k
  unfold fCnt at e
  split at e
  · rename_i y ds
    split at e
    · rename_i hs
      obtain ⟨s1, s2⟩ := Bool.and_eq_true_iff.mp hs
      cases e
      have rx' := Rp.dp _ _ (nodict s1) rx
      cases rx with
      | lst n1 e1 a1 => exact ⟨_, u, _, ds, rfl, rfl, rx', Rp.dp _ _ (nodict s2) ry, s1, s2, k _ H (Same.refl H) (.int _)⟩
    · cases e
  · cases e
theorem d_cnt (hu : X.A.units + 65 < cLine) (ho : PEd Z X o to wo) (he : PEd Z X e te we) (hbase : attributeBase o "count" X.env (eval o X.env) = eval o X.env := by rfl)
    (hfew : ((backTo pos (starEach [e] X.env)).all (fun x => !x.1) && (backToKw pos (keywordEach [] X.env)).all (fun x => x.1.isSome) && decide ([e].length + ([] : List Keyword).length + (if ([] : List Keyword).isEmpty then 0 else 1) < 30)) = true := by rfl)
    (hline : (apos.endLine == pos.line) = true := by rfl) (hs : starEach [e] X.env = (false, eval e X.env) :: starEach [] X.env := by rfl) (hpl : (backTo pos (starEach [] X.env)).any (·.1) = false := by rfl) :
    PEd Z X (.Call (.Attribute o "count" apos) [e] [] pos) (tBM X.K "list" (rCntD X.kw) to (tCons te tNil)) (wM2 fCnt wo we) :=
  ⟨pe_bm PySem.F.plainAttrs_list PySem.F.slot_list_count PySem.F.type_list_count (mt_cntD hu) ho.p (pa_cons he.p pa_nil hs) hbase hfew hline hs hpl, imp_m2 l_cnt ho.i he.i⟩
def fIdx : PyData → PyData → Option PyData
  | .list ds, d => if (SeqAt.shaped (.list ds) && SeqAt.shaped d) = true then (ds.findIdx? fun y => PyData.eqv y d).map fun n => .int (n : Nat) else none
  | _, _ => none
theorem l_idx : LiftM K (rIndexD K.k) fIdx := by
  intro M H x y z v u ml e rx ry Q k
  unfold fIdx at e
  split at e
  · rename_i y ds
    split at e
    · rename_i hs
      obtain ⟨s1, s2⟩ := Bool.and_eq_true_iff.mp hs
      obtain ⟨n, h1, h2⟩ := Option.map_eq_some_iff.mp e
      subst h2
      have rx' := Rp.dp _ _ (nodict s1) rx
      obtain ⟨hn, p1, p2⟩ := List.findIdx?_eq_some_iff_getElem.mp h1
      cases rx with
      | lst n1 e1 a1 =>
        refine ⟨_, u, _, ds, n, ds[n], rfl, rfl, rx', Rp.dp _ _ (nodict s2) ry, s1, s2, List.getElem?_eq_getElem hn, p1, fun m z' hm hz => ?_, k _ H (Same.refl H) (.int _)⟩
        obtain ⟨hm2, e3⟩ := List.getElem?_eq_some_iff.mp hz
        have q := p2 m hm
        rw [e3] at q
        simpa using q
    · cases e
  · cases e
theorem d_idx (hu : X.A.units + 65 < cLine) (ho : PEd Z X o to wo) (he : PEd Z X e te we) (hbase : attributeBase o "index" X.env (eval o X.env) = eval o X.env := by rfl)
    (hfew : ((backTo pos (starEach [e] X.env)).all (fun x => !x.1) && (backToKw pos (keywordEach [] X.env)).all (fun x => x.1.isSome) && decide ([e].length + ([] : List Keyword).length + (if ([] : List Keyword).isEmpty then 0 else 1) < 30)) = true := by rfl)
    (hline : (apos.endLine == pos.line) = true := by rfl) (hs : starEach [e] X.env = (false, eval e X.env) :: starEach [] X.env := by rfl) (hpl : (backTo pos (starEach [] X.env)).any (·.1) = false := by rfl) :
    PEd Z X (.Call (.Attribute o "index" apos) [e] [] pos) (tBM X.K "list" (rIndexD X.K) to (tCons te tNil)) (wM2 fIdx wo we) :=
  ⟨pe_bm PySem.F.plainAttrs_list PySem.F.slot_list_index PySem.F.type_list_index (mt_indexD hu) ho.p (pa_cons he.p pa_nil hs) hbase hfew hline hs hpl, imp_m2 l_idx ho.i he.i⟩
/-! ### x in (a, b), of data of any depth -/
def rInTD (K : PySem.W.Frag) (neg : Bool) : R2 := fun x y H Q => ∃ (d : PyData) (ds : List PyData), Dp K H x d ∧ Dp K H y (.tuple ds) ∧ SeqAt.shaped d = true ∧ SeqAt.shaped (.tuple ds) = true ∧ Q (.bl (if neg = true then !ds.any (fun z => PyData.eqv z d) else ds.any (fun z => PyData.eqv z d))) H
theorem op_inTD (hu : X.A.units + 65 < cLine) : OpR X (compareOp .In) (rInTD X.K false) := by
  intro pins s σ H x y v u Q I rx ry h
  obtain ⟨d, ds, hd, he, sd, se, q⟩ := h
  obtain ⟨as, r1⟩ := Dp.reads I d x v hd rx
  obtain ⟨bs, r2⟩ := Dp.reads I (.tuple ds) y u he ry
  exact SeqAt.in_tuple_reads r2 r1 (SeqAt.canLay_of_shaped se) (SeqAt.canLay_of_shaped sd) (room_in_shaped sd hu) ⟨.bl _, H, I, rfl, q⟩
theorem op_notInTD (hu : X.A.units + 65 < cLine) : OpR X (compareOp .NotIn) (rInTD X.K true) := by
  intro pins s σ H x y v u Q I rx ry h
  obtain ⟨d, ds, hd, he, sd, se, q⟩ := h
  obtain ⟨as, r1⟩ := Dp.reads I d x v hd rx
  obtain ⟨bs, r2⟩ := Dp.reads I (.tuple ds) y u he ry
  exact SeqAt.notIn_tuple_reads r2 r1 (SeqAt.canLay_of_shaped se) (SeqAt.canLay_of_shaped sd) (room_in_shaped sd hu) ⟨.bl _, H, I, rfl, q⟩
def fInT (neg : Bool) (x y : PyData) : Option PyData := match y with
  | .tuple ds => if (SeqAt.shaped x && SeqAt.shaped (.tuple ds)) = true then some (.bool (if neg = true then !ds.any (fun z => PyData.eqv z x) else ds.any (fun z => PyData.eqv z x))) else none
  | _ => none
theorem l_inT (neg : Bool) : LiftR K (rInTD K neg) (fInT neg) := by
  intro M H x y z v u ml e rx ry Q k
  cases y with
  | tuple ds =>
    simp only [fInT] at e
    split at e
    · rename_i h
      rw [Bool.and_eq_true] at h
      cases e
      exact ⟨x, ds, Rp.dp x v (nodict h.1) rx, Rp.dp _ u (nodict h.2) ry, h.1, h.2, k _ H (Same.refl H) (.bl _)⟩
    · cases e
  | _ => cases e
/-! ### for c in a text -/
def chars (s : Str) : List PyData := s.cps.toList.map fun c => .str ⟨#[c]⟩
def wiStr (we : WE) : WI := fun ρ P => we ρ fun x ρ1 => ∃ s, x = .str s ∧ P (chars s) ρ1
theorem i_str (h : PEd Z X e te we) : PId Z X tg e (iStr te) (wiStr we) := by
  refine ⟨pi_str h.p, fun F G M σ H ρ R P hw Rr k => ?_⟩
  refine h.i F G M σ H ρ R _ hw _ fun x ρ1 v M1 H1 R1 r1 ⟨s, e, q⟩ => ?_
  subst e
  have r1' := r1
  cases r1
  refine ⟨s, rfl, k _ ρ1 _ (.str s, .d (.str s)) M1 H1 (R1.push r1') ⟨fun M' H' fp ml' r i x ex => ?_, fun M' H' fp ml' r => ?_⟩ q⟩
  · unfold chars at ex
    rw [List.getElem?_map] at ex
    obtain ⟨cp, e1, e2⟩ := Option.map_eq_some_iff.mp ex
    subst e2
    have e3 : s.cps[i]? = some cp := by rw [← Array.getElem?_toList]; exact e1
    obtain ⟨hi, _⟩ := Array.getElem?_eq_some_iff.mp e3
    refine ⟨hi, fun v' H'' y => ?_⟩
    obtain ⟨y1, c2, y2, y3⟩ := y
    rw [e3] at y2
    cases y2
    subst y3
    subst y1
    exact ⟨Same.refl _, .str _⟩
  · show s.cps.size ≤ (chars s).length
    unfold chars
    rw [List.length_map, Array.length_toList]
    exact Nat.le_refl _
end
/-! ### for c in a text, while an exception is handled -/
theorem next_end_hot {prog : Program} {w : World} {A : Around} {E : Value → Shared → Prop} {s : Shared} {it x1 : Addr} {x : Str} {t : Tok} {i : Nat} {Q : Option Value → Shared → Prop} (hot : HotX.HotAt A x1 s.heap)
    (hit : s.heap.IsStrIter it "str_ascii_iterator" x t i) (hx : x.cps[i]? = none) (hne : x1 ≠ it)
    (hQ : ∀ h', Heap.ExtBut it s.heap h' → Q none { s with heap := h' }) : wpAny (model prog w) A (pyNext (.ref it)) Q E s := by
  obtain ⟨o, ho, hc, hd⟩ := id hit
  obtain ⟨hh, o1, vs1, h1, d1, c1⟩ := hot
  unfold pyNext
  refine wpAny_bind (wpAny_attempt (wpAny_callSpecial?_slot (name := Str.ofString "__next__") hit.typeIs F.slot_str_ascii_iterator_next (wpAny_call_entry F.slot_str_ascii_iterator_next hit.typeIs F.entry_str_ascii_iterator_next ?_ (F.args_str_ascii_iterator_next_1 _))))
  show wpAny _ _ (field (.ref it) 0 >>= _) _ _ s
  refine wpAny_bind (wpAny_field ho hd (x := .str x t) rfl ?_)
  show wpAny _ _ (field (.ref it) 1 >>= _) _ _ s
  refine wpAny_bind (wpAny_field ho hd (x := .int i 0) rfl ?_)
  simp only [Int.toNat_natCast, hx]
  refine wpAny_bind (wpAny_rule (wpAny_bind (wpAny_setField ho hd (by simp) (wpAny_bind (wpAny_letGo ?_)))))
  show wpAny _ _ (newExc (.type "StopIteration") [] >>= _) _ _ _
  refine wpAny_bind ?_
  simp only [newExc, newTuple]
  refine wpAny_bind (wpAny_newObj_type ?_ (by size_fits))
  refine wpAny_bind (m := firstArgMember _ _) (wpAny_of_eq (a := Value.none) (by first | rfl | (simp only [firstArgMember]; rfl)) ?_)
  refine wpAny_newObj_type ?_ (by size_fits)
  refine HotX.raiseNew_hot ⟨hh, o1, vs1, Heap.get?_push_of_some _ (Heap.get?_push_of_some _ ((Heap.get?_update_ne _ _ _ _ hne).trans h1)), d1, c1⟩ (Nat.ne_of_lt (Heap.lt_size (Heap.get?_push_of_some _ ((Heap.get?_update_ne _ _ _ _ hne).trans h1)))) (Heap.get?_push_size _ rfl) rfl (by first | (simp; done) | (simp; omega) | (simp only [Array.size_append]; simp; omega)) ?_
  refine wpAny_bind (wpAny_isInstance (T := "StopIteration") (b := true) ⟨_, Heap.get?_update_self _ (Heap.get?_push_size _ rfl) rfl, rfl⟩ isSubtype_stop ?_)
  refine wpAny_pure (hQ _ fun b ob hb e => ?_)
  have e1 : (s.heap.update it (Obj.mapFields fun x => x.setIfInBounds 0 Value.none)).get? b = some ob := (Heap.get?_update_ne _ _ _ _ hb).trans e
  have e2 := Heap.get?_push_of_some { cls := .type "tuple", data := .seq #[] } e1
  rw [Heap.get?_update_other _ _ (Nat.ne_of_gt (Heap.lt_size e2))]
  exact Heap.get?_push_of_some _ e2
abbrev ascC (x : Str) : Bool := x.cps.all (· < 128)
theorem turn_strG {P : Program} {w : World} {K : PySem.W.Frag} {tg : Expr} (it : Addr) (x : Str) (t : Tok) : TurnG HotZ P w K tg (Its x) [it] it (fun i h => h.IsStrIter it "str_ascii_iterator" x t i) where
  obj := fun n hp st b hb => by
    obtain rfl : b = it := by simpa using hb
    obtain ⟨o, e, c, d⟩ := st
    exact ⟨o, e, fun v z => by rw [d] at z; cases z⟩
  keep := fun n hp hq st k => let ⟨o, ho, r⟩ := st; ⟨o, k it (by simp) o ho, r⟩
  item := by
    intro X hP hw hK hc i pins s σ H E I hf st hg
    subst hP hw hK
    obtain ⟨f0, f1, f2, f3, f4, f5⟩ := hf it (by simp)
    have hi : i < x.cps.size := hg
    have hx : x.cps[i]? = some x.cps[i] := Array.getElem?_eq_getElem hi
    refine wpAny_pyNext_ascii_item st hx fun h' st' kk => ?_
    have I1 : Inv X pins σ H { s with heap := h', toks := s.toks + 1 } := I.turned (fun b o hb e => (kk.2 b hb).trans e) f0 f1 f3 f4 f5
    obtain ⟨oi, e, cc, dd⟩ := id st'
    exact ⟨_, rfl, go_of (s := { s with heap := h', toks := s.toks + 1 }) e cc dd (by decide) ⟨.str ⟨#[x.cps[i]]⟩, H, I1, ⟨_, rfl⟩, ⟨rfl, _, hx, rfl⟩, st', fun b hb => (hf b hb).1⟩⟩
  done := by
    intro X hP hw hK hc i pins s σ H E I hf st hg
    subst hP hw hK
    obtain ⟨f0, f1, f2, f3, f4, f5⟩ := hf it (by simp)
    have hx : x.cps[i]? = none := Array.getElem?_eq_none hg
    obtain ⟨x1, hot⟩ := hot_at hc I
    refine next_end_hot hot st hx (fun z => ?_) fun h' eb => ⟨rfl, I.turned (t' := s.toks) (fun b o hb e => eb b o hb e) f0 f1 f3 f4 f5⟩
    obtain ⟨a, oe, u, vs, h1, h2, h3, h4⟩ := hc
    obtain ⟨k1, _⟩ := hot
    rw [h1] at k1
    have k2 : a = x1 := by injection k1 with k1; injection k1
    have k3 := I.base.frzs a oe u h2
    rw [k2, z] at k3
    rw [f0] at k3
    cases k3
  self := fun A i s Q E st h => wpAny_pyIter_striter_ascii st h
def iStrA (te : TE) : TI := fun σ H R => te σ H fun v H1 => ∃ x, v = .str x ∧ ascC x = true ∧ R (Its x) H1
theorem pi_strG {X : Cx} {tg e : Expr} {te : TE} (he : PE X e te) : PIG HotZ X tg e (iStrA te) := by
  intro pins s σ H R I h
  refine thn (he.run pins s σ H _ I h) fun v s1 ⟨y, H1, I1, r1, x, ex, hx, q⟩ => ?_
  subst ex
  obtain ⟨t, rfl⟩ := r1
  refine wpAny_pyIter_ascii hx ⟨s1.heap.objs.size, [s1.heap.objs.size], fun i h => h.IsStrIter s1.heap.objs.size "str_ascii_iterator" x t i, Its x, H1, rfl, I1.kept (t' := s1.toks) fun b o e => Heap.get?_push_of_some _ e, turn_strG _ x t, ⟨_, Heap.get?_push_size _ rfl, rfl, rfl⟩, fun b hb => ?_, q⟩
  obtain rfl : b = s1.heap.objs.size := by simpa using hb
  exact I1.fpOk (Nat.le_refl _) (I1.hok.fresh (Nat.le_refl _))
section
variable {Z : XC} {X : Cx} {tg elt iter e : Expr} {ifs : List Expr} {te : TE} {we : WE} {pos : Pos} {wg : WG} {wt : WT} {wk : WK} {vs' : List Nat}
def wiStrA (we : WE) : WI := fun ρ P => we ρ fun x ρ1 => ∃ s, x = .str s ∧ ascC s = true ∧ P (chars s) ρ1
theorem imp_strA {K : KW} (h : ImpE Z K te we) : ImpI Z K (iStrA te) (wiStrA we) := by
  intro F G M σ H ρ R P hw Rr k
  refine h F G M σ H ρ R _ hw _ fun x ρ1 v M1 H1 R1 r1 ⟨s, e, ea, q⟩ => ?_
  subst e
  have r1' := r1
  cases r1
  refine ⟨s, rfl, ea, k _ ρ1 _ (.str s, .d (.str s)) M1 H1 (R1.push r1') ⟨fun M' H' fp ml' r i x ex => ?_, fun M' H' fp ml' r => ?_⟩ q⟩
  · unfold chars at ex
    rw [List.getElem?_map] at ex
    obtain ⟨cp, e1, e2⟩ := Option.map_eq_some_iff.mp ex
    subst e2
    have e3 : s.cps[i]? = some cp := by rw [← Array.getElem?_toList]; exact e1
    obtain ⟨hi, _⟩ := Array.getElem?_eq_some_iff.mp e3
    refine ⟨hi, fun v' H'' y => ?_⟩
    obtain ⟨y1, c2, y2, y3⟩ := y
    rw [e3] at y2
    cases y2
    subst y3
    subst y1
    exact ⟨Same.refl _, .str _⟩
  · show s.cps.size ≤ (chars s).length
    unfold chars
    rw [List.length_map, Array.length_toList]
    exact Nat.le_refl _
theorem hot_blk (h : HotZ X) {scope : Scope} {pins : List (Addr × Obj)} {σ : L2.St} {H : Hp} {s : Shared} (I : Inv X pins σ H s) (ce : Env) (fp : List Addr) : HotZ (X.blk s H scope ce fp) := by
  obtain ⟨a, oe, u, vs, h1, h2, h3, h4⟩ := h
  exact ⟨a, oe, u, vs, h1, I.base.frzs a oe u h2, h3, h4⟩
/-- [e for x in a text], while an exception is handled -/
theorem d_compH {g : BF TG} {tt : BF TT} {tk : BF TK} {gs : List Comprehension} {scope : Scope} {yes : Env → Value → Sem Fin → Sem Fin} (hot : HotZ X) (own : List (Str × Nat)) (hN : X.N.Nodup) (ok : BlkOk X.N X.env.scope scope own) (hT : TurnsAs (.ListComp elt (⟨tg, iter, ifs, 0⟩ :: gs) scope pos) 0 tg iter ifs yes) (hi : PEd Z X iter te we)
    (hg : ∀ (s : Shared) (H : Hp) (C : Addr) (cl : List (Str × Addr)) (fp : List Addr), PGvd (X.blk s H scope (compEnvC scope cl C X.env) fp) (own.map (·.2)) tg (g s H C cl fp) wg)
    (ht : ∀ (s : Shared) (H : Hp) (C : Addr) (cl : List (Str × Addr)) (fp : List Addr), PTsd Z (X.blk s H scope (compEnvC scope cl C X.env) fp) ifs (tt s H C cl fp) wt)
    (ha : ∀ (s : Shared) (H : Hp) (C : Addr) (cl : List (Str × Addr)) (fp : List Addr), PKt Z (X.blk s H scope (compEnvC scope cl C X.env) fp) yes vs' (tk s H C cl fp) wk) (hv : ∀ j ∈ vs', j ∈ own.map (·.2) := by decide) (hs : ∀ x, foldedSetIterable iter X.env x = pure x := by intro _; rfl) :
    PNd Z X (.ListComp elt (⟨tg, iter, ifs, 0⟩ :: gs) scope pos) (tLcN (iStrA te) g tt tk (own.map (·.2))) (wLcN (wiStrA we) wg wt wk (own.map (·.2))) :=
  ⟨pe_lcN (okc := HotZ) (fun I ce fp => hot_blk hot I ce fp) hN (pi_strG hi.p) ok hT hv (fun s H C cl fp => (hg s H C cl fp).p) (fun s H C cl fp => (ht s H C cl fp).p) (fun s H C cl fp => (ha s H C cl fp).p) hs,
   imp_lcN (imp_strA hi.i) (fun s H C cl fp => (hg s H C cl fp).i) (fun s H C cl fp => (ht s H C cl fp).i) (fun s H C cl fp => (ha s H C cl fp).i) hv⟩
end
/-! ### what the classes say, as a test -/
def excCB (K : PySem.W.Frag) (D : Addr) : Bool :=
  decide (PySem.W.findIn K (.ref D) "__getattribute__" = some (some (.builtin "BaseException.__getattribute__"))) && (decide (PySem.W.findIn K (.ref D) "__getattr__" = some none) && (decide (PySem.W.subIn K (.ref D) (.type "BaseException") = some true) && (PySem.W.hasDictIn K D &&
    (decide (PySem.W.findIn K (.ref D) "__class__" = some (some (.builtin "object.__class__"))) && (decide (PySem.W.specialIn K (.builtin "object.__class__") "__get__" = some (some (.builtin "getset_descriptor.__get__"))) && (decide (PySem.W.takesIn K (.builtin "object.__class__") = some true) && decide (PySem.W.mroIn K D (.type "object") = some true)))))))
theorem excCB_ok {K : PySem.W.Frag} {D : Addr} (h : excCB K D = true) : ExcC K D := by
  unfold excCB at h
  simp only [Bool.and_eq_true, decide_eq_true_eq] at h
  obtain ⟨h1, h2, h3, h4, h5, h6, h7, h8⟩ := h
  exact ⟨h1, h2, h3, h4, h5, h6, h7, h8⟩
def tabB (K : PySem.W.Frag) (cv : Value) (tb : List (Str × Bool)) : Bool := tb.all fun p => excCB K (He.ga K p.1) && decide (PySem.W.kitOne K (.ref (He.ga K p.1)) cv = some p.2)
theorem lookup_mem {α : Type} {c : Str} {b : α} : ∀ {l : List (Str × α)}, l.lookup c = some b → (c, b) ∈ l
  | [], h => by cases h
  | (d, y) :: l, h => by
    rw [List.lookup] at h
    cases e : (c == d) with
    | true =>
      rw [e] at h
      cases h
      rw [eq_of_beq e]
      exact List.mem_cons_self
    | false =>
      rw [e] at h
      exact List.mem_cons_of_mem _ (lookup_mem h)
theorem tabB_ok {K : PySem.W.Frag} {cv : Value} {tb : List (Str × Bool)} (h : tabB K cv tb = true) : TabC K cv tb := fun c b hl => by
  have q := List.all_eq_true.mp h _ (lookup_mem hl)
  obtain ⟨h1, h2⟩ := Bool.and_eq_true_iff.mp q
  exact ⟨excCB_ok h1, of_decide_eq_true h2⟩
theorem all_at {l : List Bool} (h : l.all id = true) (j : Nat) {b : Bool} (e : l[j]? = some b) : b = true := List.all_eq_true.mp h b (List.mem_of_getElem? e)
end Dat
set_option Elab.async false
set_option linter.all false
set_option maxRecDepth 100000
set_option maxHeartbeats 4000000
/-! Instances that stay as they were made: C(..), o.f, o.m(..). -/
namespace Dat
open PySem PySem.Spec PyProof.Rows L2
def insD (c : Str) (fs : List (Str × PyData)) : PyData := .dict ((.str c, .bool true) :: fs.map fun p => (.str p.1, p.2))
/-- an __init__ that keeps its arguments as fields -/
def spN (C : Addr) (fs : List Str) : Sp := fun vs H Q _ => ∃ (a dx : Addr) (us : List V), vs = .ref a :: us ∧ us.length = fs.length ∧ H a = some (.ins C dx []) ∧ Q .non (upd H a (.ins C dx (fs.zip us)))
section
variable {P : Program} {w : World} {K : PySem.W.Frag} {mg : Str → Option Value} {base : Heap} {C fI : Addr}
theorem init3_ok {CX : CXT} {qual f1 f2 f3 p1 p2 p3 : Str} {params : Arguments} {body : List Stmt} {scope : Scope} {fd : FuncData} {a1 a2 a3 b1 b2 b3 c1 c2 c3 q1 q2 q3 : Pos} (c : Cls K C) (n1 : NoAttr K C f1) (n2 : NoAttr K C f2) (n3 : NoAttr K C f3) (F : FunD K "__init__" qual params body scope [] [] fI fd)
    (S : FnScope ["self", p1, p2, p3] ["self", p1, p2, p3] scope)
    (hbd : body = [.Assign [.Attribute (.Name "self" a1) f1 b1] (.Name p1 c1) q1, .Assign [.Attribute (.Name "self" a2) f2 b2] (.Name p2 c2) q2, .Assign [.Attribute (.Name "self" a3) f3 b3] (.Name p3 c3) q3])
    (hv : Vis scope "self") (hv1 : Vis scope p1) (hv2 : Vis scope p2) (hv3 : Vis scope p3) (h12 : f1 ≠ f2) (h13 : f1 ≠ f3) (h23 : f2 ≠ f3)
    (hd1 : (p1 == ("__debug__" : Str)) = false) (hc1 : (p1 == ("__classdict__" : Str)) = false) (hd2 : (p2 == ("__debug__" : Str)) = false) (hc2 : (p2 == ("__classdict__" : Str)) = false) (hd3 : (p3 == ("__debug__" : Str)) = false) (hc3 : (p3 == ("__classdict__" : Str)) = false) :
    FnOk P w K mg base CX 1 fI fd ["self", p1, p2, p3] (spN C [f1, f2, f3]) := by
  refine FunD.ok F S (fun vs H Q E ⟨a, dx, us, e, hl, _⟩ => by rw [e, List.length_cons, hl]; rfl) fun cdv A outer s H vs Q E hr ⟨a, dx, us, e, hl, ha, hq⟩ => ?_
  subst e
  subst hbd
  match us, hl with
  | [u1, u2, u3], _ =>
    refine ⟨_, pss_cons (ps_fld (X := cxOf CX P w K mg base ["self", p1, p2, p3] qual scope fI cdv A outer s H E) (pe_var (i := 0) rfl hv) (pe_var (i := 1) rfl hv1 hd1 hc1) rfl) (pss_cons (ps_fld (pe_var (i := 0) rfl hv) (pe_var (i := 2) rfl hv2 hd2 hc2) rfl) (pss_cons (ps_fld (pe_var (i := 0) rfl hv) (pe_var (i := 3) rfl hv3 hd3 hc3) rfl) pss_nil)), ?_⟩
    refine ⟨u1, rfl, _, rfl, a, C, dx, [], rfl, ha, c, n1, by decide, ?_⟩
    refine ⟨u2, rfl, _, rfl, a, C, dx, _, rfl, upd_same, c, n2, by show 1 < 1000; decide, ?_⟩
    have e2 : putF f2 u2 (putF f1 u1 []) = [(f1, u1), (f2, u2)] := by simp [putF, h12]
    rw [upd_upd, e2]
    refine ⟨u3, rfl, _, rfl, a, C, dx, _, rfl, upd_same, c, n3, by show 2 < 1000; decide, ?_⟩
    have e3 : putF f3 u3 [(f1, u1), (f2, u2)] = [(f1, u1), (f2, u2), (f3, u3)] := by simp [putF, h13, h23]
    rw [upd_upd, e3]
    exact hq
end
theorem ins_rp {K : KW} {M : MS} {H : Hp} {v : V} {c : Str} {kvs : List (PyData × PyData)} (r : Rp K M H v (.dict ((.str c, .bool true) :: kvs))) : ∃ (a dx : Addr) (fs : List (Str × PyData)) (vs : List V), v = .ref a ∧ kvs = fs.map (fun p => (.str p.1, p.2)) ∧ H a = some (.ins (He.ga K.k c) dx ((fs.map (·.1)).zip vs)) ∧ RpAll K M H vs (fs.map (·.2)) := by
  generalize hd : PyData.dict ((.str c, .bool true) :: kvs) = d at r
  cases r with
  | @ins a dx c' fs vs kvs' e1 h1 h2 h3 =>
    cases hd
    cases e1
    exact ⟨a, dx, fs, vs, rfl, rfl, h2, h3⟩
  | @scr a ns _ e1 h1 =>
    cases hd
    cases ns with
    | nil => cases e1
    | cons n ns => cases e1
  | exc e1 =>
    cases hd
    cases e1
  | _ => cases hd
theorem zip_fst {α β : Type} : ∀ (l : List α) (r : List β), l.length = r.length → (l.zip r).map (·.1) = l
  | [], [], _ => rfl
  | a :: l, b :: r, h => by rw [List.zip_cons_cons, List.map_cons, zip_fst l r (by simpa using h)]
theorem zip_snd {α β : Type} : ∀ (l : List α) (r : List β), l.length = r.length → (l.zip r).map (·.2) = r
  | [], [], _ => rfl
  | a :: l, b :: r, h => by rw [List.zip_cons_cons, List.map_cons, zip_snd l r (by simpa using h)]
/-- what a def needs to make one -/
structure MkN (P : Program) (w : World) (K : PySem.W.Frag) (mg : Str → Option Value) (base : Heap) (x : Str) (fs : List Str) : Prop where
  ex : ∃ (fI : Addr) (fd : FuncData) (ps : List Str), Mk K (He.ga K x) fI ∧ FnOk P w K mg base (L2N.CX P w) 1 fI fd ps (spN (He.ga K x) fs) ∧ Binds K fd ps [] ∧ mg x = some (.ref (He.ga K x))
section
variable {Z : XC} {X : Cx} {x f m : Str} {o e : Expr} {es : List Expr} {ta : TA} {te to : TE} {wr : WA} {we wo : WE} {p pos apos : Pos} {fs : List Str}
def wMk (x : Str) (fs : List Str) (wr : WA) : WE := fun ρ P => wr ρ fun xs ρ1 => xs.length = fs.length ∧ P (insD x (fs.zip xs)) ρ1
theorem d_make (M : MkN X.prog X.w X.K X.mg X.base x fs) (hr : Room 2 X.A) (ha : PAd Z X (e :: es) ta wr) (hg : Gl X x := by rfl)
    (hdb : (x == ("__debug__" : Str)) = false := by decide) (he : starEach (e :: es) X.env = (false, eval e X.env) :: starEach es X.env := by rfl) (hpl : (backTo pos (starEach es X.env)).any (·.1) = false := by rfl) :
    PEd Z X (.Call (.Name x p) (e :: es) [] pos) (tMake (He.ga X.K x) (spN (He.ga X.K x) fs) [] (fun _ _ _ => False) ta) (wMk x fs wr) := by
  obtain ⟨fI, fd, ps, M1, F1, hb, hm⟩ := M.ex
  refine ⟨pe_make M1 F1 hr hg hm hb .nil (L2N.passes_call takesN0 fun _ _ _ _ z => z) ha.p hdb he hpl, fun F G M σ H ρ R P hw Q k => ?_⟩
  refine ha.i F G M σ H ρ R _ hw _ fun xs ρ1 vs M1 H1 R1 r1 ⟨hl, q⟩ => ?_
  intro a dx na nd hne
  rw [List.append_nil]
  have hvl : vs.length = fs.length := r1.length.trans hl
  refine ⟨a, dx, vs, rfl, hvl, upd_same, rfl, ?_⟩
  rw [upd_upd]
  have s1 : Same H1 (upd H1 dx (.own a)) := same_new nd
  have na2 : upd H1 dx (HO.own a) a = none := by rw [upd_ne hne.symm]; exact na
  have s2 : Same H1 (upd (upd H1 dx (.own a)) a (.ins (He.ga X.K x) dx (fs.zip vs))) := s1.trans (same_new na2)
  refine k (insD x (fs.zip xs)) ρ1 _ M1 _ (R1.same s2) ?_ q
  refine .ins (dx := dx) (vs := vs) rfl (R1.r.notM na) ?_ ?_
  · rw [upd_same, zip_fst fs xs hl.symm]
  · rw [zip_snd fs xs hl.symm]
    exact r1.same R1.ml s2
/-! ### o.f -/
def fFld (c f : Str) : PyData → Option PyData
  | .dict ((.str c', .bool true) :: kvs) => if c' = c then lookF f kvs else none
  | _ => none
theorem d_fld {c : Str} (hc : Cls X.K (He.ga X.K c)) (hn : NoAttr X.K (He.ga X.K c) f) (ha : PEd Z X o to wo) (hb : attributeBase o f X.env (eval o X.env) = eval o X.env := by rfl) : PEd Z X (.Attribute o f pos) (tFld X.K to f) (wUn (fFld c f) wo) := by
  refine ⟨pe_fld ha.p hb, fun F G M σ H ρ R P hw Q k => ?_⟩
  refine ha.i F G M σ H ρ R _ hw _ fun d ρ1 v M1 H1 R1 r1 ⟨z, e, q⟩ => ?_
  unfold fFld at e
  split at e
  · split at e
    · rename_i hcc
      subst hcc
      obtain ⟨a, dx, fs, vs, rfl, e1, e2, ra⟩ := ins_rp r1
      subst e1
      rw [lookF_fs] at e
      obtain ⟨u, hu, ru⟩ := lookup_rp ra e
      exact ⟨a, _, dx, _, u, rfl, e2, hc, hn, hu, k z ρ1 u M1 H1 R1 ru q⟩
    · cases e
  · cases e
/-! ### o.m(..) -/
structure CalM (P : Program) (w : World) (K : PySem.W.Frag) (mg : Str → Option Value) (base : Heap) (c m : Str) (k : Nat) (ps : List Str) (wf : WFn) (f : Addr) (fd : FuncData) : Prop where
  g : FnG P w K mg base k f fd ps (spG ⟨K, P, w⟩ mg wf)
  mt : Meth K (He.ga K c) m f
  cl : Cls K (He.ga K c)
  bd : Binds K fd ps []
def isIns (c m : Str) : PyData → Bool
  | .dict ((.str c', .bool true) :: kvs) => decide (c' = c) && (lookF m kvs).isNone
  | _ => false
def wMeth (c m : Str) (wf : WF) (wo : WE) (wr : WA) : WE := fun ρ P => wo ρ fun d ρ1 => isIns c m d = true ∧ wr ρ1 fun xs ρ2 => wf (d :: xs) fun z => P z ρ2
def tMethW (C : Addr) (m : Str) (sp : Sp) (to : TE) (t : TA) : TE := fun σ H Q => to σ H fun x H1 => ∃ a dx fs, x = .ref a ∧ H1 a = some (.ins C dx fs) ∧ fs.lookup m = none ∧ t σ H1 fun vs H2 => sp (x :: vs) H2 Q fun _ _ _ => False
theorem look_none {K : KW} {M : MS} {H : Hp} {f : Str} : ∀ {fs : List (Str × PyData)} {vs : List V}, RpAll K M H vs (fs.map (·.2)) → fs.lookup f = none → ((fs.map (·.1)).zip vs).lookup f = none
  | [], vs, _, h => rfl
  | (g, z) :: fs, vs, r, h => by
    cases r with
    | cons r1 r2 =>
      rename_i v vs
      show ((g, v) :: ((fs.map (·.1)).zip vs)).lookup f = none
      rw [List.lookup] at h ⊢
      cases e : (f == g) with
      | true => rw [e] at h; cases h
      | false => rw [e] at h; exact look_none r2 h
theorem CalM.pm {wf : WF} {c : Str} {k : Nat} {ps : List Str} {fa : Addr} {fd : FuncData} {pl : Sem Bool} (C : CalM X.prog X.w X.K X.mg X.base c m k ps (wfP wf) fa fd) (hg : X.A.guards = some []) (hr : Room k X.A) (ho : PEd Z X o to wo) (ha : PAd Z X (e :: es) ta wr)
    (hst : starEach (e :: es) X.env = (false, eval e X.env) :: starEach es X.env := by rfl) (hpl : (backTo pos (starEach es X.env)).any (·.1) = false := by rfl)
    (ht : eval (.Call (.Attribute o m apos) (e :: es) [] pos) X.env = (do
      let ov ← eval o X.env
      standAt apos.atName
      let (g, first) ← holding [ov] (getMethod ov m pl)
      callWith pos g first (backTo pos (starEach (e :: es) X.env)) (backToKw pos (keywordEach [] X.env))) := by rfl) :
    PEd Z X (.Call (.Attribute o m apos) (e :: es) [] pos) (tMethW (He.ga X.K c) m (spG X.kw X.mg (wfP wf)) to ta) (wMeth c m wf wo wr) := by
  refine ⟨⟨fun pins s σ H Q I h => ?_⟩, fun F G M σ H ρ R P hw Q kk => ?_⟩
  · refine PySem.W.methodCall_KW (pl := pl) (thn (ho.p.run pins s σ H _ I h) fun u s1 ⟨x, H1, I1, rx, a, dx, fs, ex, ea, l, q⟩ => ?_) ht
    subst ex
    obtain rfl : u = Value.ref a := rx
    refine getmeth_ok I1 ea C.cl C.mt l ?_
    refine PySem.W.callWith_K (first := [.ref a]) (h₀ := X.base) I.ok.mod.kin C.mt.kp (thn (ha.p.run pos pins s1 σ H1 _ I1 q) fun us s2 ⟨vs, H2, I2, r, q2⟩ => ⟨I2.kIn, ?_⟩) hst hpl
    have r2 : Vals (V.ref a :: vs) (Value.ref a :: us) := .cons rfl r
    have hb := C.bd s2 (Value.ref a :: us) I2.kIn (by rw [List.append_nil, ← r2.length]; exact C.g.len _ _ _ _ q2)
    rw [List.append_nil] at hb
    exact ran_call C.g hg hr takesN0 I2 hb r2 q2
  · refine ho.i F G M σ H ρ R _ hw _ fun d ρ1 v M1 H1 R1 r1 ⟨hi, hw1⟩ => ?_
    unfold isIns at hi
    split at hi
    · rename_i c' kvs
      obtain ⟨h1, h2⟩ := Bool.and_eq_true_iff.mp hi
      have hcc := of_decide_eq_true h1
      subst hcc
      obtain ⟨a, dx, fs, vs, rfl, e1, e2, ra⟩ := ins_rp r1
      subst e1
      rw [lookF_fs] at h2
      refine ⟨a, dx, _, rfl, e2, look_none ra (Option.isNone_iff_eq_none.mp h2), ?_⟩
      refine ha.i F ((_, .d _) :: G) M1 σ H1 ρ1 (R1.push r1) _ hw1 _ fun xs ρ2 us M2 H2 R2 r2 q => ?_
      obtain ⟨R3, r3⟩ := R2.r.popD
      exact call_P (R1.to R3) (.cons r3 r2) q kk
    · cases hi
end
end Dat
set_option Elab.async false
set_option linter.all false
set_option maxRecDepth 100000
set_option maxHeartbeats 4000000
/-! Dicts of one's own whose keys are tuples, nested ones too. -/
namespace Dat
open PySem PySem.Spec PyProof.Rows L2
abbrev DL := List (NestedKey × Addr × V)
mutual
theorem nk_is {X : Cx} {pins : List (Addr × Obj)} {σ : L2.St} {H : Hp} {s : Shared} {M : MS} (I : Inv X pins σ H s) : ∀ (d : PyData) (v : V) (u : Value) (k : NestedKey), nk d = some k → Rp X.kw M H v d → RelV v u → NestedIs s.heap k u
  | .none, _, u, k, e, r, ru => by
    cases r
    simp only [nk, Option.some.injEq] at e
    subst e
    obtain rfl : u = .none := ru
    exact .none
  | .bool b, _, u, k, e, r, ru => by
    cases r
    simp only [nk, Option.some.injEq] at e
    subst e
    obtain rfl : u = .bool b := ru
    exact .bool rfl
  | .int i, _, u, k, e, r, ru => by
    cases r
    simp only [nk, Option.some.injEq] at e
    subst e
    obtain ⟨t, rfl⟩ := ru
    exact .int i t
  | .str x, _, u, k, e, r, ru => by
    cases r
    simp only [nk, Option.some.injEq] at e
    subst e
    obtain ⟨t, rfl⟩ := ru
    exact .text x t
  | .tuple ds, _, u, k, e, r, ru => by
    cases r with
    | @tup a xs _ h1 h2 =>
      simp only [nk] at e
      obtain ⟨ks, e1, e2⟩ := Option.map_eq_some_iff.mp e
      subst e2
      obtain rfl : u = .ref a := ru
      obtain ⟨its, rv, ⟨o, ho, hc, n, hd⟩, _⟩ := I.tuple h1
      exact .tup ho hc hd (nk_all I ds xs its ks e1 h2 rv)
  | .list ds, _, u, k, e, r, ru => by simp [nk] at e
  | .dict ds, _, u, k, e, r, ru => by simp [nk] at e
theorem nk_all {X : Cx} {pins : List (Addr × Obj)} {σ : L2.St} {H : Hp} {s : Shared} {M : MS} (I : Inv X pins σ H s) : ∀ (ds : List PyData) (vs : List V) (us : List Value) (ks : List NestedKey), nkAll ds = some ks → RpAll X.kw M H vs ds → Vals vs us → NestedAll s.heap ks us
  | [], _, _, ks, e, r, ru => by
    cases r
    cases ru
    simp only [nkAll, Option.some.injEq] at e
    subst e
    exact .nil
  | d :: ds, _, _, ks, e, r, ru => by
    cases r with
    | cons r1 r2 =>
      cases ru with
      | cons q1 q2 =>
        simp only [nkAll] at e
        cases e1 : nk d with
        | none => rw [e1] at e; simp at e
        | some k =>
          cases e2 : nkAll ds with
          | none => rw [e1, e2] at e; simp at e
          | some ks' =>
            rw [e1, e2] at e
            simp only [Option.some.injEq] at e
            subst e
            exact .cons (nk_is I d _ _ k e1 r1 q1) (nk_all I ds _ _ ks' e2 r2 q2)
end
/-- the tuple at a is the key k -/
def KeyAt (K : KW) (H : Hp) (a : Addr) (k : NestedKey) : Prop := ∃ M d, Rp K M H (.ref a) d ∧ nk d = some k ∧ k.depth ≤ 8
theorem key_is {X : Cx} {pins : List (Addr × Obj)} {σ : L2.St} {H : Hp} {s : Shared} (I : Inv X pins σ H s) {a : Addr} {k : NestedKey} (h : KeyAt X.kw H a k) : (nestedKind X.prog X.w).is s.heap k a := by
  obtain ⟨M, d, r, e, hd⟩ := h
  exact ⟨nk_is I d _ _ k e r rfl, hd⟩
def DLAt (K : KW) (H : Hp) (p : Addr) (L : DL) : Prop := H p = some (DNO K.P K.w p L) ∧ ∀ q ∈ L, KeyAt K H q.2.1 q.1
abbrev PrD : DL → List (NestedKey × Addr × Value) → Prop := Paired (fun (q : NestedKey × Addr × V) (x : NestedKey × Addr × Value) => q.1 = x.1 ∧ q.2.1 = x.2.1 ∧ RelV q.2.2 x.2.2)
theorem PrD.mem : ∀ {L : DL} {xs : List (NestedKey × Addr × Value)}, PrD L xs → ∀ x ∈ xs, ∃ q ∈ L, q.1 = x.1 ∧ q.2.1 = x.2.1
  | _, _, .nil, x, h => by cases h
  | _, _, .cons r t, x, h => by
    rcases List.mem_cons.mp h with rfl | h
    · exact ⟨_, List.mem_cons_self, r.1, r.2.1⟩
    · obtain ⟨q, h1, h2⟩ := PrD.mem t x h
      exact ⟨q, List.mem_cons_of_mem _ h1, h2⟩
theorem dl_of {X : Cx} {pins : List (Addr × Obj)} {σ : L2.St} {H : Hp} {s : Shared} (I : Inv X pins σ H s) {p : Addr} {L : DL} (h : DLAt X.kw H p L) : (p == sysModules) = false ∧ ∃ xs, PrD L xs ∧ s.heap.DictOfH (nestedKind X.prog X.w) p xs := by
  obtain ⟨h1, h2⟩ := h
  have x := I.hok p _ h1
  obtain ⟨⟨hs, xs, hp, o, es, ep, ho, hc, hd, he, hn⟩, _⟩ := x
  refine ⟨hs, xs, hp, o, es, ep, ho, hc, hd, he, fun y hy => ?_, hn⟩
  obtain ⟨q, hq, e1, e2⟩ := PrD.mem hp y hy
  have z := key_is I (h2 q hq)
  rw [e1, e2] at z
  exact z
theorem dno_ok {P : Program} {w : World} {H : Hp} {h : Heap} {p : Addr} {L : DL} {xs : List (NestedKey × Addr × Value)} (hs : (p == sysModules) = false) (hp : PrD L xs) (hm : h.DictOfH (nestedKind P w) p xs) : ObjOk P w H h p (DNO P w p L) := by
  obtain ⟨o, es, ep, ho, hc, hd, he, _, hn⟩ := hm
  exact ⟨⟨hs, xs, hp, o, es, ep, ho, hc, hd, he, hn⟩, ⟨o, ho⟩, fun h1 h2 ⟨q1, ys, q2, o', es', ep', q3, q4⟩ k => ⟨q1, ys, q2, o', es', ep', k _ q3, q4⟩⟩
def lookL (L : DL) (k : NestedKey) : Option V := (L.find? fun q => decide (q.1 = k)).map (·.2.2)
theorem look_at {k : NestedKey} : ∀ {L : DL} {xs : List (NestedKey × Addr × Value)}, PrD L xs → (∀ v, lookL L k = some v → ∃ z, atKey xs k = some z ∧ RelV v z.2) ∧ (lookL L k = none → atKey xs k = none)
  | _, _, .nil => ⟨fun v h => (by cases h), fun _ => rfl⟩
  | _, _, .cons (a := q) (b := x) r t => by
    obtain ⟨e1, e2, e3⟩ := r
    have ih := look_at (k := k) t
    unfold lookL atKey at ih ⊢
    rw [List.find?_cons, List.find?_cons]
    by_cases h : q.1 = k
    · rw [decide_eq_true h, decide_eq_true (e1 ▸ h)]
      exact ⟨fun v hv => ⟨x.2, rfl, by cases hv; exact e3⟩, fun hv => by cases hv⟩
    · rw [decide_eq_false h, decide_eq_false (e1 ▸ h)]
      exact ih
theorem look_is {L : DL} {xs : List (NestedKey × Addr × Value)} {k : NestedKey} (h : PrD L xs) : (atKey xs k).isSome = (lookL L k).isSome := by
  obtain ⟨h1, h2⟩ := look_at (k := k) h
  cases e : lookL L k with
  | none => rw [h2 e]; rfl
  | some v =>
    obtain ⟨z, hz, _⟩ := h1 v e
    rw [hz]
    rfl
section
variable {X : Cx}
def rIxN (K : KW) : R2 := fun x y H Q => ∃ (p a : Addr) (L : DL) (k : NestedKey) (v : V), x = .ref p ∧ y = .ref a ∧ DLAt K H p L ∧ KeyAt K H a k ∧ lookL L k = some v ∧ Q v H
theorem ix_n (hu : X.A.units + 20 < cLine) : IxR X (rIxN X.kw) := by
  intro value slice pins s σ H x y v u Q I rx ry h hs
  obtain ⟨p, a, L, k, z, rfl, rfl, hd, hk, hl, q⟩ := h
  obtain rfl : v = Value.ref p := rx
  obtain rfl : u = Value.ref a := ry
  obtain ⟨_, xs, hp, hm⟩ := dl_of I hd
  obtain ⟨z', e1, e2⟩ := (look_at hp).1 z hl
  refine tail_any hm.typeIs slot_dict_getitem.lookup (wpAny_getItem_heap (knd := nestedKind X.prog X.w) (by show X.A.units + 1 + 8 < cLine; omega) (key_is I hk) hm e1 ⟨z, H, I.tok _, e2, q⟩) hs
def rInN (K : KW) (neg : Bool) : R2 := fun x y H Q => ∃ (p a : Addr) (L : DL) (k : NestedKey), y = .ref p ∧ x = .ref a ∧ DLAt K H p L ∧ KeyAt K H a k ∧ Q (.bl (if neg = true then !(lookL L k).isSome else (lookL L k).isSome)) H
theorem op_inN (hu : X.A.units + 20 < cLine) : OpR X (compareOp .In) (rInN X.kw false) := by
  intro pins s σ H x y v u Q I rx ry h
  obtain ⟨p, a, L, k, rfl, rfl, hd, hk, q⟩ := h
  obtain rfl : u = Value.ref p := ry
  obtain rfl : v = Value.ref a := rx
  obtain ⟨hs, xs, hp, hm⟩ := dl_of I hd
  refine wpAny_in_heap (knd := nestedKind X.prog X.w) (by show X.A.units + 1 + 8 < cLine; omega) (key_is I hk) hs hm ?_
  rw [look_is hp]
  exact ⟨.bl _, H, I.tok _, rfl, q⟩
theorem op_notInN (hu : X.A.units + 20 < cLine) : OpR X (compareOp .NotIn) (rInN X.kw true) := by
  intro pins s σ H x y v u Q I rx ry h
  obtain ⟨p, a, L, k, rfl, rfl, hd, hk, q⟩ := h
  obtain rfl : u = Value.ref p := ry
  obtain rfl : v = Value.ref a := rx
  obtain ⟨hs, xs, hp, hm⟩ := dl_of I hd
  show wpAny _ _ (do return Value.bool (!(← contains (.ref p) (.ref a))) : Sem Value) _ _ s
  refine wpAny_bind (wpAny_contains_heap (knd := nestedKind X.prog X.w) (by show X.A.units + 1 + 8 < cLine; omega) (key_is I hk) hs hm (wpAny_pure ?_))
  rw [look_is hp]
  exact ⟨.bl _, H, I.tok _, rfl, q⟩
/-! d[k] = v -/
def storeL (L : DL) (k : NestedKey) (a : Addr) (v : V) : DL := if (lookL L k).isSome = true then L.map (fun q => if q.1 = k then (q.1, q.2.1, v) else q) else L ++ [(k, a, v)]
theorem PrD.app : ∀ {L L' : DL} {xs ys : List (NestedKey × Addr × Value)}, PrD L xs → PrD L' ys → PrD (L ++ L') (xs ++ ys)
  | _, _, _, _, .nil, h => h
  | _, _, _, _, .cons r t, h => .cons r (PrD.app t h)
theorem PrD.put {k : NestedKey} {v : V} {u : Value} (rv : RelV v u) : ∀ {L : DL} {xs : List (NestedKey × Addr × Value)}, PrD L xs → PrD (L.map (fun q => if q.1 = k then (q.1, q.2.1, v) else q)) (xs.map (putAt k u))
  | _, _, .nil => .nil
  | _, _, .cons (a := q) (b := x) r t => by
    rw [List.map_cons, List.map_cons]
    refine .cons ?_ (PrD.put rv t)
    unfold putAt
    by_cases h : q.1 = k
    · rw [if_pos h, if_pos (r.1 ▸ h)]
      exact ⟨r.1, r.2.1, rv⟩
    · rw [if_neg h, if_neg (r.1 ▸ h)]
      exact r
theorem store_rel {L : DL} {xs : List (NestedKey × Addr × Value)} {k : NestedKey} {a : Addr} {v : V} {u : Value} (h : PrD L xs) (rv : RelV v u) : PrD (storeL L k a v) (storedH xs k a u) := by
  unfold storeL storedH
  rw [look_is h]
  split
  · exact PrD.put rv h
  · exact PrD.app h (.cons ⟨rfl, rfl, rv⟩ .nil)
def rSetN (K : KW) : TSet := fun o i v H Q => ∃ (p a : Addr) (L : DL) (k : NestedKey), o = .ref p ∧ i = .ref a ∧ DLAt K H p L ∧ KeyAt K H a k ∧ L.length ≤ 1000000 ∧ Q (upd H p (DNO K.P K.w p (storeL L k a v)))
theorem set_n (hu : X.A.units + 20 < cLine) : PSet X (rSetN X.kw) := by
  intro pins s σ H o i v ov iv u Q I ro ri rv h
  obtain ⟨p, a, L, k, rfl, rfl, hd, hk, hz, q⟩ := h
  obtain rfl : ov = Value.ref p := ro
  obtain rfl : iv = Value.ref a := ri
  obtain ⟨hs, xs, hp, hm⟩ := dl_of I hd
  have hlen : ∀ {L : DL} {xs : List (NestedKey × Addr × Value)}, PrD L xs → L.length = xs.length := fun h => Paired.length h
  refine wpAny_setItem_heap (knd := nestedKind X.prog X.w) (hsz := by rw [← hlen hp, sizeLine_eq]; omega) (by show X.A.units + 1 + 8 < cLine; omega) (key_is I hk) hm fun h' hm' sb => ?_
  refine ⟨_, d_write (t' := s.toks + (nestedKind X.prog X.w).draws k) I (by rw [hd.1]; exact True.intro) sb (let ⟨o, _, _, ho, _⟩ := hm'; ⟨o, ho⟩) (dno_ok (L := storeL L k a v) hs (store_rel hp rv) hm'), q⟩
/-! {} and {k: v} -/
def tNew0 (K : KW) : TE := fun _ H Q => ∀ p, H p = none → Q (.ref p) (upd H p (DNO K.P K.w p []))
theorem pe_new0 {pos : Pos} : PE X (.Dict [] [] pos) (tNew0 X.kw) := ⟨fun pins s σ H Q I h =>
  wpAny_Dict_empty ⟨.ref s.heap.objs.size, _, I.laid (a := s.heap.objs.size) (o := DNO X.prog X.w s.heap.objs.size []) (t' := s.toks) (fun _ _ q => Heap.get?_push_of_some _ q) (Nat.le_refl _)
    (dno_ok (beq_eq_false_iff_ne.mpr (Ne.symm (Nat.ne_of_lt I.big))) .nil (Heap.DictOfH.new s.heap)), rfl, h _ (I.hok.fresh (Nat.le_refl _))⟩⟩
def tNew1 (K : KW) (tk tv : TE) : TE := fun σ H Q => ∀ p, H p = none → tk σ (upd H p (DNO K.P K.w p [])) fun x H1 => tv σ H1 fun v H2 => ∃ (a : Addr) (k : NestedKey), x = .ref a ∧ H2 p = some (DNO K.P K.w p []) ∧ KeyAt K H2 a k ∧ Q (.ref p) (upd H2 p (DNO K.P K.w p [(k, a, v)]))
theorem pe_new1 {pos : Pos} {k v : Expr} {tk tv : TE} (hu : X.A.units + 20 < cLine) (hk : PE X k tk) (hv : PE X v tv)
    (hshape : (evalEachOpt [some k] X.env).zip ((evalEach [v] X.env).map fun v => do let x ← v; standAt pos; pure x) = [(eval k X.env, do let x ← eval v X.env; standAt pos; pure x)].map fun p => (some p.1, p.2) := by rfl) : PE X (.Dict [some k] [v] pos) (tNew1 X.kw tk tv) := by
  refine ⟨fun pins s σ H Q I h => ?_⟩
  have hn := I.hok.fresh (Nat.le_refl s.heap.objs.size)
  have hs : (s.heap.objs.size == sysModules) = false := beq_eq_false_iff_ne.mpr (Ne.symm (Nat.ne_of_lt I.big))
  have I1 := I.laid (a := s.heap.objs.size) (o := DNO X.prog X.w s.heap.objs.size []) (t' := s.toks) (h' := s.heap.push { cls := .type "dict", data := .dict #[] }) (fun _ _ q => Heap.get?_push_of_some _ q) (Nat.le_refl _) (dno_ok hs .nil (Heap.DictOfH.new s.heap))
  rw [arm_eval_Dict, hshape, dictDisplay_pairs _ (by simp) (by show 1 < 17; decide)]
  refine wpAny_bind (wpAny_standAt (wpAny_bind (wpAny_subDictH (knd := nestedKind X.prog X.w) (Q := fun d s' => wpAny (model X.prog X.w) X.A (pure (Value.ref d)) (EP X pins σ Q) X.xe s') (by show X.A.units + 8 < cLine; omega) (by show 1 ≤ 15; decide) ?_)))
  refine evalPairs_cons (thn (hk.run pins _ σ _ _ I1 (h _ hn)) fun uk s1 ⟨x, H1, J1, rx, q1⟩ => ?_)
  refine wpAny_bind (thn (hv.run pins s1 σ H1 _ J1 q1) fun uv s2 ⟨v, H2, J2, rv, a, kk, ex, e2, hkk, q2⟩ => wpAny_bind (wpAny_standAt (wpAny_pure ?_)))
  refine evalPairs_nil ?_
  subst ex
  obtain rfl : uk = Value.ref a := rx
  obtain ⟨_, xs, hp, hm⟩ := dl_of (L := []) J2 ⟨e2, fun q hq => by cases hq⟩
  cases hp
  refine ⟨[(kk, a, uv)], ⟨rfl, rfl, key_is J2 hkk, trivial⟩, hm, fun h' tk hm' sb => wpAny_pure ?_⟩
  have hm2 : h'.DictOfH (nestedKind X.prog X.w) s.heap.objs.size [(kk, a, uv)] := hm'
  exact ⟨.ref s.heap.objs.size, _, d_write (t' := tk) J2 (by rw [e2]; exact True.intro) sb (let ⟨o, _, _, ho, _⟩ := hm2; ⟨o, ho⟩) (dno_ok (L := [(kk, a, v)]) hs (.cons ⟨rfl, rfl, rv⟩ .nil) hm2), rfl, q2⟩
end
end Dat
set_option Elab.async false
set_option linter.all false
set_option maxRecDepth 100000
set_option maxHeartbeats 4000000
/-! Dicts of one's own whose keys are tuples, over data. -/
namespace Dat
open PySem PySem.Spec PyProof.Rows L2
def lookK (kvs : List (PyData × PyData)) (k : NestedKey) : Option PyData := (kvs.find? fun p => decide (nk p.1 = some k)).map (·.2)
/-- a tuple as a key -/
def nkT : PyData → Option NestedKey
  | .tuple ds => match nk (.tuple ds) with
    | some k => if k.depth ≤ 8 then some k else none
    | none => none
  | _ => none
def storeK (kvs : List (PyData × PyData)) (k : NestedKey) (d y : PyData) : List (PyData × PyData) := if (lookK kvs k).isSome = true then kvs.map (fun p => if nk p.1 = some k then (p.1, y) else p) else kvs ++ [(d, y)]
theorem nkT_some {d : PyData} {k : NestedKey} (h : nkT d = some k) : nk d = some k ∧ k.depth ≤ 8 ∧ ∃ ds, d = .tuple ds := by
  unfold nkT at h
  split at h
  · split at h
    · rename_i k' e
      split at h
      · cases h
        exact ⟨e, by assumption, _, rfl⟩
      · cases h
    · cases h
  · cases h
section
variable {K : KW} {M : MS} {H : Hp}
theorem look_kv {k : NestedKey} : ∀ (L : DL) (kvs : List (PyData × PyData)), (kvs.map fun p => nk p.1) = L.map (fun q => some q.1) → RpAll K M H (L.map (·.2.2)) (kvs.map (·.2)) → (∀ y, lookK kvs k = some y → ∃ v, lookL L k = some v ∧ Rp K M H v y) ∧ (lookK kvs k = none → lookL L k = none)
  | [], [], _, _ => ⟨fun y h => (by cases h), fun _ => rfl⟩
  | [], _ :: _, e, _ => by cases e
  | _ :: _, [], e, _ => by cases e
  | q :: L, p :: kvs, e, r => by
    rw [List.map_cons, List.map_cons] at e r
    cases r with
    | cons r1 r2 =>
      have e1 : nk p.1 = some q.1 := (List.cons.inj e).1
      have ih := look_kv (k := k) L kvs (List.cons.inj e).2 r2
      unfold lookK lookL at ih ⊢
      rw [List.find?_cons, List.find?_cons, e1]
      by_cases h : q.1 = k
      · rw [decide_eq_true h, decide_eq_true (by rw [h])]
        exact ⟨fun y hy => ⟨q.2.2, rfl, by cases hy; exact r1⟩, fun hy => by cases hy⟩
      · rw [decide_eq_false h, decide_eq_false (by simpa using h)]
        exact ih
theorem look_kvs {k : NestedKey} {L : DL} {kvs : List (PyData × PyData)} (e : (kvs.map fun p => nk p.1) = L.map (fun q => some q.1)) (r : RpAll K M H (L.map (·.2.2)) (kvs.map (·.2))) : (lookL L k).isSome = (lookK kvs k).isSome := by
  obtain ⟨h1, h2⟩ := look_kv (k := k) L kvs e r
  cases q : lookK kvs k with
  | none => rw [h2 q]; rfl
  | some y =>
    obtain ⟨v, hv, _⟩ := h1 y q
    rw [hv]
    rfl
theorem keys_at : ∀ (L : DL) (kvs : List (PyData × PyData)), (kvs.map fun p => nk p.1) = L.map (fun q => some q.1) → RpAll K M H (L.map fun q => V.ref q.2.1) (kvs.map (·.1)) → (∀ q ∈ L, q.1.depth ≤ 8) → ∀ q ∈ L, KeyAt K H q.2.1 q.1
  | [], _, _, _, _, q, hq => by cases hq
  | _ :: _, [], e, _, _, _, _ => by cases e
  | q :: L, p :: kvs, e, r, hd, q', hq => by
    rw [List.map_cons, List.map_cons] at e r
    cases r with
    | cons r1 r2 =>
      rcases List.mem_cons.mp hq with rfl | hq
      · exact ⟨M, p.1, r1, (List.cons.inj e).1, hd _ List.mem_cons_self⟩
      · exact keys_at L kvs (List.cons.inj e).2 r2 (fun z hz => hd z (List.mem_cons_of_mem _ hz)) q' hq
theorem NDict.at {p : Addr} {kvs : List (PyData × PyData)} (h : NDict K M H p kvs) : ∃ L, DLAt K H p L ∧ (kvs.map fun p => nk p.1) = L.map (fun q => some q.1) ∧ RpAll K M H (L.map fun q => V.ref q.2.1) (kvs.map (·.1)) ∧ RpAll K M H (L.map (·.2.2)) (kvs.map (·.2)) ∧ ∀ q ∈ L, q.1.depth ≤ 8 := by
  obtain ⟨L, h1, h2, h3, h4, h5⟩ := h
  exact ⟨L, ⟨h1, keys_at L kvs h3 h2 h4⟩, h3, h2, h5, h4⟩
theorem key_of {v : V} {d : PyData} {k : NestedKey} (r : Rp K M H v d) (h : nkT d = some k) : ∃ a, v = .ref a ∧ KeyAt K H a k := by
  obtain ⟨h1, h2, ds, rfl⟩ := nkT_some h
  cases r with
  | tup e1 e2 => exact ⟨_, rfl, M, _, .tup e1 e2, h1, h2⟩
theorem RepS.nd {F : Frm} {G : List (V × T)} {σ : L2.St} {ρ : DE} (R : RepS K F G M H σ ρ) {k : Nat} {m : Md} {kvs : List (PyData × PyData)} (e : ρ[k]? = some (some (.o m (.n kvs)))) : ∃ p, σ[k]? = some (some (.ref p)) ∧ NDict K M H p kvs := by
  obtain ⟨v, fp, h1, h2, h3⟩ := R.own e
  cases h2 with
  | n hm q => exact ⟨_, h1, q⟩
theorem rt_n1 {kvs : List (PyData × PyData)} : ∀ v fp, RT K M H v (.n kvs) fp → ∃ p, v = .ref p ∧ fp = [p] := fun v fp r => by cases r with | n _ _ => exact ⟨_, rfl, rfl⟩
end
section
variable {Z : XC} {X : Cx} {e b ke : Expr} {te tb tk : TE} {we wb wk : WE} {pos : Pos}
/-! d[k] -/
def wIxN (k : Nat) (wb : WE) : WE := fun ρ P => (∃ bb kvs, ρ[k]? = some (some (.o bb (.n kvs)))) ∧ wb ρ fun y ρ1 => ∃ b kvs kk z, ρ1[k]? = some (some (.o b (.n kvs))) ∧ nkT y = some kk ∧ lookK kvs kk = some z ∧ P z ρ1
theorem d_ixN (k : Nat) {x : Str} {p : Pos} (hu : X.A.units + 20 < cLine) (hb : PEd Z X b tb wb) (hN : X.N[k]? = some x := by rfl) (hv : Vis X.env.scope x := by first | exact Or.inl rfl | exact Or.inr (Or.inl rfl) | exact Or.inr (Or.inr rfl)) (hd : (x == ("__debug__" : Str)) = false := by decide) (hcd : (x == ("__classdict__" : Str)) = false := by decide) (hs : PlainIx b := by exact fun _ _ => rfl) :
    PEd Z X (.Subscript (.Name x p) b pos) (tOp (rIxN X.kw) (tVar k) tb) (wIxN k wb) := by
  refine ⟨pe_ix (ix_n hu) (pe_var hN hv hd hcd) hb.p hs, fun F G M σ H ρ R P hw Q kk => ?_⟩
  obtain ⟨⟨b0, kvs0, e0⟩, hw⟩ := hw
  obtain ⟨p0, h1, _⟩ := R.r.nd e0
  refine ⟨.ref p0, h1, ?_⟩
  refine hb.i F G M σ H ρ R _ hw _ fun y ρ1 v M1 H1 R1 r1 ⟨b1, kvs, ky, z, e1, ek, el, q⟩ => ?_
  obtain ⟨p1, z1, nd⟩ := R1.r.nd e1
  rw [h1] at z1
  cases z1
  obtain ⟨L, dl, k1, k2, k3, _⟩ := nd.at
  obtain ⟨a, rfl, ka⟩ := key_of r1 ek
  obtain ⟨v', l1, l2⟩ := (look_kv L kvs k1 k3).1 z el
  exact ⟨p0, a, L, ky, v', rfl, rfl, dl, ka, l1, kk z ρ1 v' M1 H1 R1 l2 q⟩
/-! k in d -/
def wInN (neg : Bool) (k : Nat) (we : WE) : WE := fun ρ P => we ρ fun x ρ1 => ∃ m kvs kk, ρ1[k]? = some (some (.o m (.n kvs))) ∧ nkT x = some kk ∧ P (.bool (if neg = true then !(lookK kvs kk).isSome else (lookK kvs kk).isSome)) ρ1
theorem imp_inN (neg : Bool) (k : Nat) (h : ImpE Z X.kw te we) : ImpE Z X.kw (tOp (rInN X.kw neg) te (tVar k)) (wInN neg k we) := by
  intro F G M σ H ρ R P hw Q kk
  refine h F G M σ H ρ R _ hw _ fun x ρ1 v M1 H1 R1 r1 ⟨m, kvs, ky, e1, ek, q⟩ => ?_
  obtain ⟨p1, z1, nd⟩ := R1.r.nd e1
  obtain ⟨L, dl, k1, k2, k3, _⟩ := nd.at
  obtain ⟨a, rfl, ka⟩ := key_of r1 ek
  refine ⟨.ref p1, z1, p1, a, L, ky, rfl, rfl, dl, ka, ?_⟩
  rw [look_kvs k1 k3]
  exact kk _ ρ1 _ M1 H1 R1 (.bl _) q
theorem c_inN (k : Nat) {y : Str} {py : Pos} (hu : X.A.units + 20 < cLine) (h : PEd Z X e te we) (hN : X.N[k]? = some y := by rfl) (hv : Vis X.env.scope y := by first | exact Or.inl rfl | exact Or.inr (Or.inl rfl) | exact Or.inr (Or.inr rfl)) (hd : (y == ("__debug__" : Str)) = false := by decide) (hcd : (y == ("__classdict__" : Str)) = false := by decide) (hm : behindInMarks .In (.Name y py) = false := by rfl) :
    PTd Z X (.Compare e [.In] [.Name y py] pos) (tTest (tOp (rInN X.kw false) te (tVar k))) (wTest (wInN false k we)) := ⟨pt_cmpR (op_inN hu) h.p (pe_var hN hv hd hcd) hm, imp_test (imp_inN false k h.i)⟩
theorem c_notInN (k : Nat) {y : Str} {py : Pos} (hu : X.A.units + 20 < cLine) (h : PEd Z X e te we) (hN : X.N[k]? = some y := by rfl) (hv : Vis X.env.scope y := by first | exact Or.inl rfl | exact Or.inr (Or.inl rfl) | exact Or.inr (Or.inr rfl)) (hd : (y == ("__debug__" : Str)) = false := by decide) (hcd : (y == ("__classdict__" : Str)) = false := by decide) (hm : behindInMarks .NotIn (.Name y py) = false := by rfl) :
    PTd Z X (.Compare e [.NotIn] [.Name y py] pos) (tTest (tOp (rInN X.kw true) te (tVar k))) (wTest (wInN true k we)) := ⟨pt_cmpR (op_notInN hu) h.p (pe_var hN hv hd hcd) hm, imp_test (imp_inN true k h.i)⟩
/-! d[k] = v -/
theorem put_kv {K : KW} {M : MS} {H : Hp} {k : NestedKey} {v : V} {y : PyData} (r : Rp K M H v y) : ∀ (L : DL) (kvs : List (PyData × PyData)), (kvs.map fun p => nk p.1) = L.map (fun q => some q.1) → RpAll K M H (L.map (·.2.2)) (kvs.map (·.2)) →
    ((kvs.map (fun p => if nk p.1 = some k then (p.1, y) else p)).map (·.1)) = kvs.map (·.1) ∧ ((L.map (fun q => if q.1 = k then (q.1, q.2.1, v) else q)).map fun q => V.ref q.2.1) = L.map (fun q => V.ref q.2.1) ∧ ((L.map (fun q => if q.1 = k then (q.1, q.2.1, v) else q)).map fun q => q.1) = L.map (·.1) ∧
    RpAll K M H ((L.map (fun q => if q.1 = k then (q.1, q.2.1, v) else q)).map (·.2.2)) ((kvs.map (fun p => if nk p.1 = some k then (p.1, y) else p)).map (·.2))
  | [], [], _, _ => ⟨rfl, rfl, rfl, .nil⟩
  | [], _ :: _, e, _ => by cases e
  | _ :: _, [], e, _ => by cases e
  | q :: L, p :: kvs, e, ra => by
    rw [List.map_cons, List.map_cons] at e ra
    cases ra with
    | cons r1 r2 =>
      have e1 : nk p.1 = some q.1 := (List.cons.inj e).1
      obtain ⟨i1, i2, i3, i4⟩ := put_kv (k := k) r L kvs (List.cons.inj e).2 r2
      simp only [List.map_cons, e1, Option.some.injEq]
      by_cases h : q.1 = k
      · simp only [h, if_true, i1, i2, i3]
        exact ⟨trivial, trivial, trivial, .cons r i4⟩
      · simp only [h, if_false, i1, i2, i3]
        exact ⟨trivial, trivial, trivial, .cons r1 i4⟩
theorem map_nk (l : List (PyData × PyData)) : (l.map fun p => nk p.1) = (l.map (·.1)).map nk := by rw [List.map_map]; rfl
theorem map_so (l : DL) : (l.map fun q => some q.1) = (l.map fun q => q.1).map some := by rw [List.map_map]; rfl
theorem store_nd {K : KW} {M : MS} {H H' : Hp} {p a : Addr} {L : DL} {kvs : List (PyData × PyData)} {k : NestedKey} {v : V} {d y : PyData} (k1 : (kvs.map fun p => nk p.1) = L.map (fun q => some q.1)) (k2 : RpAll K M H (L.map fun q => V.ref q.2.1) (kvs.map (·.1))) (k3 : RpAll K M H (L.map (·.2.2)) (kvs.map (·.2))) (k4 : ∀ q ∈ L, q.1.depth ≤ 8)
    (rk : Rp K M H (.ref a) d) (hk : nkT d = some k) (rv : Rp K M H v y) (ml : ∀ a, M a → Mut (H a)) (g : Stp M H M H') (e : H' p = some (DNO K.P K.w p (storeL L k a v))) : NDict K M H' p (storeK kvs k d y) := by
  obtain ⟨n1, n2, _⟩ := nkT_some hk
  have hl := look_kvs (k := k) k1 k3
  refine ⟨storeL L k a v, e, ?_⟩
  unfold storeL storeK
  rw [hl]
  split
  · obtain ⟨i1, i2, i3, i4⟩ := put_kv (k := k) rv L kvs k1 k3
    refine ⟨?_, ?_, ?_, RpAll.stp ml g _ _ i4⟩
    · rw [i1, i2]
      exact RpAll.stp ml g _ _ k2
    · rw [map_nk, map_so, i1, i3, ← map_nk, ← map_so]
      exact k1
    · intro q hq
      obtain ⟨q0, hq0, rfl⟩ := List.mem_map.mp hq
      have := k4 q0 hq0
      split <;> exact this
  · refine ⟨?_, ?_, ?_, ?_⟩
    · rw [List.map_append, List.map_append]
      exact (RpAll.stp ml g _ _ k2).append (.cons (Rp.stp ml g _ _ rk) .nil)
    · rw [List.map_append, List.map_append, k1]
      show _ ++ [nk d] = _ ++ [some k]
      rw [n1]
    · intro q hq
      rcases List.mem_append.mp hq with hq | hq
      · exact k4 q hq
      · rw [List.mem_singleton] at hq
        subst hq
        exact n2
    · rw [List.map_append, List.map_append]
      exact (RpAll.stp ml g _ _ k3).append (.cons (Rp.stp ml g _ _ rv) .nil)
def wPutN (k : Nat) (wk we : WE) : WS := fun E ρ => we ρ fun y ρ1 => (∃ b kvs, ρ1[k]? = some (some (.o b (.n kvs)))) ∧ wk ρ1 fun d ρ2 => ∃ b kvs kk, ρ2[k]? = some (some (.o b (.n kvs))) ∧ b.may = true ∧ nkT d = some kk ∧ kvs.length ≤ 1000000 ∧ E.nx (ρ2.set k (some (.o b (.n (storeK kvs kk d y)))))
theorem s_putN (k : Nat) {x : Str} {p sp : Pos} (hu : X.A.units + 20 < cLine) (hk : PEd Z X ke tk wk) (he : PEd Z X e te we) (hN : X.N[k]? = some x := by rfl) (hv : Vis X.env.scope x := by first | exact Or.inl rfl | exact Or.inr (Or.inl rfl) | exact Or.inr (Or.inr rfl)) (hd : (x == ("__debug__" : Str)) = false := by decide) (hcd : (x == ("__classdict__" : Str)) = false := by decide)
    (hs : swapsWithSole [.Subscript (.Name x p) ke sp] e pos.line X.env = pure false := by rfl) (hw : swappedStores [.Subscript (.Name x p) ke sp] e X.env = pure none := by rfl)
    (ha : ∀ v, assign (.Subscript (.Name x p) ke sp) X.env v = (do
      let ov ← holding [v] (eval (.Name x p) X.env)
      let iv ← holding [v, ov] (eval ke X.env)
      standAt sp
      holding [v, ov, iv] (setItem ov iv v)
      release [v, ov, iv] []) := by intro _; rfl) :
    PSd Z X (.Assign [.Subscript (.Name x p) ke sp] e pos) (tAsg te (gSub (tVar k) tk (rSetN X.kw))) (wPutN k wk we) := by
  refine ⟨ps_asg he.p (pg_sub (pe_var hN hv hd hcd) hk.p (set_n hu) ha) hs hw, fun F G M σ H ρ R E hq D cn => ?_⟩
  refine he.i F G M σ H ρ R _ hq _ fun y ρ1 v M1 H1 R1 r1 ⟨⟨b0, kvs0, e0⟩, hw1⟩ => ?_
  obtain ⟨p1, z1, _⟩ := R1.r.nd e0
  refine ⟨.ref p1, z1, ?_⟩
  refine hk.i F ((v, .d y) :: G) M1 σ H1 ρ1 (R1.push r1) _ hw1 _ fun d ρ2 u M2 H2 R2 r2 ⟨b1, kvs, kk, e1, hb, ek, hl, q⟩ => ?_
  obtain ⟨R3, r3⟩ := R2.r.popD
  obtain ⟨p2, y1, nd⟩ := R3.nd e1
  rw [z1] at y1
  cases y1
  obtain ⟨L, dl, k1, k2, k3, k4⟩ := nd.at
  obtain ⟨a, rfl, ka⟩ := key_of r2 ek
  have hll : L.length = kvs.length := by
    have := congrArg List.length k1
    rw [List.length_map, List.length_map] at this
    exact this.symm
  refine ⟨p1, a, L, kk, rfl, rfl, dl, ka, by omega, ?_⟩
  obtain ⟨p3, x1, hM, x2, x3⟩ := R3.wr1 e1 hb rt_n1
  rw [z1] at x1
  cases x1
  exact cn.nx _ M2 σ _ (x3 (DNO X.prog X.w p1 (storeL L kk a v)) _ trivial fun g => .n hM (store_nd k1 k2 k3 k4 r2 ek r3 R3.ml g upd_same)) q
/-! {} and {k: v} -/
def wNew0 : WN := fun ρ P => P (.n []) ρ
theorem n_new0 : PNd Z X (.Dict [] [] pos) (tNew0 X.kw) wNew0 := by
  refine ⟨pe_new0, fun F G M σ H ρ R P hw Q k p hp => ?_⟩
  exact k _ ρ _ _ _ (R.up (R.r.new hp trivial (.n (.inr rfl) ⟨[], upd_same, .nil, rfl, fun q hq => (by cases hq), .nil⟩))) hw
def wNew1 (wk wv : WE) : WN := fun ρ P => wk ρ fun d ρ1 => wv ρ1 fun y ρ2 => ∃ kk, nkT d = some kk ∧ P (.n [(d, y)]) ρ2
theorem n_new1 (hu : X.A.units + 20 < cLine) (hk : PEd Z X ke tk wk) (hv : PEd Z X e te we)
    (hshape : (evalEachOpt [some ke] X.env).zip ((evalEach [e] X.env).map fun v => do let x ← v; standAt pos; pure x) = [(eval ke X.env, do let x ← eval e X.env; standAt pos; pure x)].map fun p => (some p.1, p.2) := by rfl) : PNd Z X (.Dict [some ke] [e] pos) (tNew1 X.kw tk te) (wNew1 wk we) := by
  refine ⟨pe_new1 hu hk.p hv.p hshape, fun F G M σ H ρ R P hw Q k p hp => ?_⟩
  have R1 := R.r.new hp (o := DNO X.prog X.w p []) (t := .n []) trivial (.n (.inr rfl) ⟨[], upd_same, .nil, rfl, fun q hq => (by cases hq), .nil⟩)
  refine hk.i F _ _ σ _ ρ (R.up R1) _ hw _ fun d ρ1 v M1 H1 R2 r1 hw1 => ?_
  refine hv.i F _ _ σ _ ρ1 (R2.push r1) _ hw1 _ fun y ρ2 u M2 H2 R3 r2 ⟨kk, ek, q⟩ => ?_
  obtain ⟨R4, r4⟩ := R3.r.popD
  obtain ⟨a, rfl, ka⟩ := key_of r4 ek
  obtain ⟨fp, rt, _⟩ := R4.top
  cases rt with
  | n hM nd =>
    obtain ⟨L, dl, k1, k2, k3, k4⟩ := nd.at
    have eL : L = [] := by
      cases L with
      | nil => rfl
      | cons q L => cases k1
    subst eL
    refine ⟨a, kk, rfl, dl.1, ka, ?_⟩
    have R5 := R4.wrT1 (o := DNO X.prog X.w p [(kk, a, u)]) (t' := .n [(d, y)]) rt_n1 trivial fun g => .n hM (by
      have z := store_nd (K := X.kw) (p := p) (L := []) (kvs := []) (k := kk) (v := u) (y := y) rfl .nil .nil (fun q hq => by cases hq) r4 ek r2 R4.ml g (e := upd_same)
      exact z)
    exact k _ ρ2 _ M2 _ (R.up R5) q
end
end Dat
set_option Elab.async false
set_option linter.all false
set_option maxRecDepth 100000
set_option maxHeartbeats 4000000
/-! list(zip(t, u)) of tuples. -/
namespace Dat
open PySem PySem.Spec PyProof.Rows L2 RZ
section
variable {prog : Program} {w : World} {A : Around} {E : Value → Shared → Prop} {s : Shared}
/-- a zip whose last tuple is held by another -/
abbrev ZipH (h : Heap) (z TI TO T : Addr) (f1 : Bool) : Prop := h.get? z = some { cls := .type "zip", dict := none, data := .fields #[rawInt T, .bool f1, .bool false, .ref TI, .ref TO], slots := #[] }
theorem alive_any {M : Model} {a : Addr} {Q : Option Obj → Shared → Prop} (h : Q (s.heap.get? a) s) : wpAny M A (loadIfAlive a) Q E s := fun Γ p _ => by
  unfold loadIfAlive
  rw [Sem.wp_loadIfAlive]
  exact (Sem.wp_pure ..).mpr h
theorem notFree {z TI TO T : Addr} {f1 : Bool} {oT : Obj} {Q : Bool → Shared → Prop} (hz : ZipH s.heap z TI TO T f1) (hT : s.heap.get? T = some oT)
    (h : ∀ h', ZipH h' z TI TO T true → Heap.SameBut z s.heap h' → Q false { s with heap := h' }) : wpAny (model prog w) A (Builtin.SmallTypes.ownedTupleIsFree (.ref z)) Q E s := by
  unfold Builtin.SmallTypes.ownedTupleIsFree
  refine wpAny_bind (wpAny_field hz rfl (x := rawInt T) rfl ?_)
  show wpAny _ _ (loadIfAlive ((T : Nat) : Int).toNat >>= _) _ _ _
  rw [Int.toNat_natCast]
  refine wpAny_bind (alive_any ?_)
  rw [hT]
  show wpAny _ _ (field (.ref z) 1 >>= _) _ _ _
  refine wpAny_bind (wpAny_field hz rfl (x := .bool f1) rfl ?_)
  cases f1 with
  | true => exact wpAny_pure (h _ hz (Heap.SameBut.refl _ _))
  | false =>
    show wpAny _ _ (setField (.ref z) 1 (.bool true) >>= _) _ _ _
    exact wpAny_bind (wpAny_setField_rec hz (by simp) fun h' hz' hs => wpAny_pure (h h' hz' hs))
theorem zipH_item {z TI TO i1 i2 l1 l2 T : Addr} {f1 : Bool} {oT : Obj} {k1 k2 : Nat} {xs ys : Array Value} {x y : Value} {Q : Value → Shared → Prop} (D : ZipApart z TI TO i1 i2 l1 l2)
    (hz : ZipH s.heap z TI TO T f1) (hT : s.heap.get? T = some oT) (hTI : IsPair s.heap TI (.ref i1) (.ref i2))
    (h1 : s.heap.IsTupleIter i1 l1 k1) (h2 : s.heap.IsTupleIter i2 l2 k2) (hl1 : s.heap.IsTuple l1 xs) (hl2 : s.heap.IsTuple l2 ys) (hx : xs[k1]? = some x) (hy : ys[k2]? = some y)
    (hQ : ∀ h', ZipH h' z TI TO T true → h'.IsTupleIter i1 l1 (k1 + 1) → h'.IsTupleIter i2 l2 (k2 + 1) → IsPair h' s.heap.objs.size x y → h'.objs.size = s.heap.objs.size + 1 →
      (∀ c o, c ≠ z → c ≠ i1 → c ≠ i2 → s.heap.get? c = some o → h'.get? c = some o) → Q (.ref s.heap.objs.size) { s with heap := h' }) :
    wpAny (model prog w) A (Builtin.«zip.__next__» ⟨[.ref z], []⟩) (fun fin s' => ∃ v, fin = .done (.ret v) ∧ Q v s') E s := by
  show wpAny _ _ (field (.ref z) 2 >>= _) _ _ _
  refine wpAny_bind (wpAny_field hz rfl (x := .bool false) rfl ?_)
  show wpAny _ _ (field (.ref z) 3 >>= _) _ _ _
  refine wpAny_bind (wpAny_field hz rfl (x := .ref TI) rfl ?_)
  refine wpAny_bind (wpAny_seqItems hTI rfl ?_)
  show wpAny _ _ (Builtin.SmallTypes.ownedTupleIsFree (.ref z) >>= _) _ _ _
  refine wpAny_bind (notFree hz hT fun ha hza sa => ?_)
  simp only [Bool.false_eq_true, if_false]
  refine wpAny_bind ?_
  rw [← Array.forIn_toList]
  simp only [List.forIn_cons, List.forIn_nil]
  refine wpAny_bind (wpAny_bind (wpAny_holding ?_))
  show wpAny _ _ (Builtin.SmallTypes.nextOf (.ref i1) >>= _) _ _ _
  refine wpAny_bind (nextOf_tuple_item (h1.extBut sa.extBut D.i1z) (hl1.extBut sa.extBut D.l1z) hx fun hb h1b sb => wpAny_pure (wpAny_pure ?_))
  refine wpAny_bind (wpAny_bind (wpAny_holding ?_))
  show wpAny _ _ (Builtin.SmallTypes.nextOf (.ref i2) >>= _) _ _ _
  refine wpAny_bind (nextOf_tuple_item ((h2.extBut sa.extBut D.i2z).extBut sb.extBut D.i12.symm) ((hl2.extBut sa.extBut D.l2z).extBut sb.extBut D.l2i1) hy fun hc h2c sc => wpAny_pure (wpAny_pure (wpAny_pure ?_)))
  refine wpAny_bind (wpAny_newTuple (hsz := by show 2 ≤ sizeLine; decide) (wpAny_pure ⟨_, rfl, ?_⟩))
  have hsz : hc.objs.size = s.heap.objs.size := by rw [sc.1, sb.1, sa.1]
  have hzc : ZipH hc z TI TO T true := sc.extBut _ _ D.i2z.symm (sb.extBut _ _ D.i1z.symm hza)
  have h1c : hc.IsTupleIter i1 l1 (k1 + 1) := h1b.extBut sc.extBut D.i12
  have key : Q (.ref hc.objs.size) { s with heap := hc.push { cls := .type "tuple", data := .seq #[x, y] } } := by
    rw [hsz]
    refine hQ _ (Heap.get?_push_of_some _ hzc) (h1c.at fun o e => Heap.get?_push_of_some _ e) (h2c.at fun o e => Heap.get?_push_of_some _ e) ?_ (by rw [Heap.size_push, hsz]) fun c o c1 c2 c3 e => Heap.get?_push_of_some _ (sc.extBut _ _ c3 (sb.extBut _ _ c2 (sa.extBut _ _ c1 e)))
    rw [← hsz]
    exact Heap.get?_push_size _ rfl
  exact key
theorem zipH_end {z TI TO i1 i2 l1 l2 T : Addr} {f1 : Bool} {oT : Obj} {k1 k2 : Nat} {xs ys : Array Value} {Q : Fin → Shared → Prop} (hh : A.handled = none) (D : ZipApart z TI TO i1 i2 l1 l2)
    (hz : ZipH s.heap z TI TO T f1) (hT : s.heap.get? T = some oT) (hTI : IsPair s.heap TI (.ref i1) (.ref i2))
    (h1 : s.heap.IsTupleIter i1 l1 k1) (h2 : s.heap.IsTupleIter i2 l2 k2) (hl1 : s.heap.IsTuple l1 xs) (hl2 : s.heap.IsTuple l2 ys) (hend : xs[k1]? = none ∨ ys[k2]? = none)
    (hE : ∀ h' e, (∀ c o, c ≠ z → c ≠ i1 → c ≠ i2 → s.heap.get? c = some o → h'.get? c = some o) → (∃ o, h'.get? e = some o ∧ o.cls = .type "StopIteration") → E (.ref e) { s with heap := h' }) :
    wpAny (model prog w) A (Builtin.«zip.__next__» ⟨[.ref z], []⟩) Q E s := by
  show wpAny _ _ (field (.ref z) 2 >>= _) _ _ _
  refine wpAny_bind (wpAny_field hz rfl (x := .bool false) rfl ?_)
  show wpAny _ _ (field (.ref z) 3 >>= _) _ _ _
  refine wpAny_bind (wpAny_field hz rfl (x := .ref TI) rfl ?_)
  refine wpAny_bind (wpAny_seqItems hTI rfl ?_)
  show wpAny _ _ (Builtin.SmallTypes.ownedTupleIsFree (.ref z) >>= _) _ _ _
  refine wpAny_bind (notFree hz hT fun ha hza sa => ?_)
  simp only [Bool.false_eq_true, if_false]
  refine wpAny_bind ?_
  rw [← Array.forIn_toList]
  simp only [List.forIn_cons, List.forIn_nil]
  refine wpAny_bind (wpAny_bind (wpAny_holding ?_))
  show wpAny _ _ (Builtin.SmallTypes.nextOf (.ref i1) >>= _) _ _ _
  cases hx : xs[k1]? with
  | none =>
    refine wpAny_bind (nextOf_tuple_end hh (h1.extBut sa.extBut D.i1z) (hl1.extBut sa.extBut D.l1z) hx fun hb e sb he => ?_)
    exact hE hb e (fun c o c1 c2 _ q => sb _ _ c2 (sa.extBut _ _ c1 q)) he
  | some x =>
    have hy : ys[k2]? = none := by rcases hend with h | h; rw [hx] at h; cases h; exact h
    refine wpAny_bind (nextOf_tuple_item (h1.extBut sa.extBut D.i1z) (hl1.extBut sa.extBut D.l1z) hx fun hb h1b sb => wpAny_pure (wpAny_pure ?_))
    refine wpAny_bind (wpAny_bind (wpAny_holding ?_))
    show wpAny _ _ (Builtin.SmallTypes.nextOf (.ref i2) >>= _) _ _ _
    refine wpAny_bind (nextOf_tuple_end hh ((h2.extBut sa.extBut D.i2z).extBut sb.extBut D.i12.symm) ((hl2.extBut sa.extBut D.l2z).extBut sb.extBut D.l2i1) hy fun hc e sc he => ?_)
    exact hE hc e (fun c o c1 c2 c3 q => sc _ _ c3 (sb.extBut _ _ c2 (sa.extBut _ _ c1 q))) he
/-! either way -/
def ZipAny (h : Heap) (z TI TO : Addr) : Prop := (IsZip h z TI TO .none ∧ ∃ x y, IsPair h TO x y) ∨ ∃ T f1 oT, ZipH h z TI TO T f1 ∧ h.get? T = some oT ∧ (∃ x y, IsPair h TO x y)
theorem zipAny_item {z TI TO i1 i2 l1 l2 : Addr} {k1 k2 : Nat} {xs ys : Array Value} {x y : Value} {Q : Option Value → Shared → Prop} (D : ZipApart z TI TO i1 i2 l1 l2) (hz : ZipAny s.heap z TI TO) (hTI : IsPair s.heap TI (.ref i1) (.ref i2))
    (h1 : s.heap.IsTupleIter i1 l1 k1) (h2 : s.heap.IsTupleIter i2 l2 k2) (hl1 : s.heap.IsTuple l1 xs) (hl2 : s.heap.IsTuple l2 ys) (hx : xs[k1]? = some x) (hy : ys[k2]? = some y)
    (hQ : ∀ h' T f1 oT, (T = s.heap.objs.size ∨ ∃ f0, ZipH s.heap z TI TO T f0) → ZipH h' z TI TO T f1 → h'.get? T = some oT → T ≠ z → T ≠ TO → T ≠ i1 → T ≠ i2 → (∃ a b, IsPair h' TO a b) → h'.IsTupleIter i1 l1 (k1 + 1) → h'.IsTupleIter i2 l2 (k2 + 1) → IsPair h' s.heap.objs.size x y → h'.objs.size = s.heap.objs.size + 1 →
      (∀ c o, c ≠ z → c ≠ TO → c ≠ i1 → c ≠ i2 → s.heap.get? c = some o → h'.get? c = some o) → Q (some (.ref s.heap.objs.size)) { s with heap := h' })
    (hne : ∀ T f1, ZipH s.heap z TI TO T f1 → T ≠ z ∧ T ≠ TO ∧ T ≠ i1 ∧ T ≠ i2) :
    wpAny (model prog w) A (pyNext (.ref z)) Q E s := by
  rcases hz with ⟨hz, a, b, hTO⟩ | ⟨T, f1, oT, hz, hT, a, b, hTO⟩
  · refine pyNext_zipT_item D hz hTI hTO h1 h2 hl1 hl2 hx hy fun h' a1 a2 a3 a4 a5 a6 a7 => ?_
    have lz : z < s.heap.objs.size := Heap.lt_size hz
    have lTO : TO < s.heap.objs.size := Heap.lt_size hTO
    have li1 : i1 < s.heap.objs.size := by obtain ⟨_, e, _⟩ := h1; exact Heap.lt_size e
    have li2 : i2 < s.heap.objs.size := by obtain ⟨_, e, _⟩ := h2; exact Heap.lt_size e
    exact hQ h' s.heap.objs.size false _ (.inl rfl) a1 a5 (Nat.ne_of_gt lz) (Nat.ne_of_gt lTO) (Nat.ne_of_gt li1) (Nat.ne_of_gt li2) ⟨x, y, a2⟩ a3 a4 a5 a6 a7
  · have hTy : s.TypeIs (.ref z) "zip" := ⟨_, hz, rfl⟩
    obtain ⟨n1, n2, n3, n4⟩ := hne T f1 hz
    unfold pyNext
    exact wpAny_bind (wpAny_attempt (wpAny_callSpecial?_slot (name := Str.ofString "__next__") hTy F.slot_zip_next (wpAny_call_entry F.slot_zip_next hTy F.entry_zip_next
      (zipH_item D hz hT hTI h1 h2 hl1 hl2 hx hy fun h' a1 a3 a4 a5 a6 a7 => wpAny_pure (hQ h' T true oT (.inr ⟨f1, hz⟩) a1 (a7 T oT n1 n3 n4 hT) n1 n2 n3 n4 ⟨a, b, a7 TO _ D.TOz D.TOi1 D.TOi2 hTO⟩ a3 a4 a5 a6 fun c o c1 _ c3 c4 e => a7 c o c1 c3 c4 e)) (F.args_zip_next_1 _))))
theorem zipAny_end {z TI TO i1 i2 l1 l2 : Addr} {k1 k2 : Nat} {xs ys : Array Value} {Q : Option Value → Shared → Prop} (hh : A.handled = none) (D : ZipApart z TI TO i1 i2 l1 l2) (hz : ZipAny s.heap z TI TO) (hTI : IsPair s.heap TI (.ref i1) (.ref i2))
    (h1 : s.heap.IsTupleIter i1 l1 k1) (h2 : s.heap.IsTupleIter i2 l2 k2) (hl1 : s.heap.IsTuple l1 xs) (hl2 : s.heap.IsTuple l2 ys) (hend : xs[k1]? = none ∨ ys[k2]? = none)
    (hQ : ∀ h', (∀ c o, c ≠ z → c ≠ TO → c ≠ i1 → c ≠ i2 → s.heap.get? c = some o → h'.get? c = some o) → Q none { s with heap := h' }) : wpAny (model prog w) A (pyNext (.ref z)) Q E s := by
  rcases hz with ⟨hz, a, b, hTO⟩ | ⟨T, f1, oT, hz, hT, _⟩
  · exact pyNext_zipT_end hh D hz hTI hTO h1 h2 hl1 hl2 hend hQ
  · have hTy : s.TypeIs (.ref z) "zip" := ⟨_, hz, rfl⟩
    unfold pyNext
    refine wpAny_bind (wpAny_attempt (wpAny_callSpecial?_slot (name := Str.ofString "__next__") hTy F.slot_zip_next (wpAny_call_entry F.slot_zip_next hTy F.entry_zip_next (zipH_end hh D hz hT hTI h1 h2 hl1 hl2 hend fun h' e hk he => ?_) (F.args_zip_next_1 _))))
    obtain ⟨o, ho, hc⟩ := he
    refine wpAny_bind (wpAny_isInstance (T := "StopIteration") (b := true) ⟨o, ho, hc⟩ isSubtype_stop ?_)
    exact wpAny_pure (hQ _ fun c o c1 _ c3 c4 q => hk c o c1 c3 c4 q)
end
end Dat
set_option Elab.async false
set_option linter.all false
set_option maxRecDepth 100000
set_option maxHeartbeats 4000000
namespace Dat
open PySem PySem.Spec PyProof.Rows L2 RZ
theorem sqt_same {K : PySem.W.Frag} {H H' : Hp} {a : Addr} {xs : List V} (h : SqT K H a xs) (k : ∀ o, ¬ Mut (some o) → H a = some o → H' a = some o) : SqT K H' a xs := by
  rcases h with (h | ⟨o, h⟩) | h
  · exact .inl (.inl (k _ id h))
  · exact .inl (.inr ⟨o, k _ id h⟩)
  · exact .inr h
section
variable {X : Cx} {pins : List (Addr × Obj)} {σ : L2.St} {A : Around} {R : Result → Shared → Prop}
theorem zip_loop {S z TI TO i1 i2 a b : Addr} {res : Value} {xs ys : List V} (hh : A.handled = none) (D : ZipApart z TI TO i1 i2 a b) (hS5 : S ≠ z ∧ S ≠ TI ∧ S ≠ TO ∧ S ≠ i1 ∧ S ≠ i2) (hxl : xs.length ≤ 1000000) : ∀ (k i : Nat) (s : Shared) (H : Hp) (vs : List V), min xs.length ys.length - i = k → i ≤ min xs.length ys.length →
    Inv X pins σ H s → (∀ c ∈ [z, TI, TO, i1, i2], FpOk X pins H c) → ZipAny s.heap z TI TO → (∀ T f1, ZipH s.heap z TI TO T f1 → T ≠ z ∧ T ≠ TO ∧ T ≠ i1 ∧ T ≠ i2 ∧ T ≠ S) → IsPair s.heap TI (.ref i1) (.ref i2) → s.heap.IsTupleIter i1 a i → s.heap.IsTupleIter i2 b i →
    SqT X.K H a xs → SqT X.K H b ys → H S = some (.lst vs) → vs.length = i →
    (∀ s' H' (ts : List Addr), Inv X pins σ H' s' → (∀ c o, c ≠ S → H c = some o → H' c = some o) → H' S = some (.lst (vs ++ ts.map V.ref)) → (∀ t ∈ ts, H t = none) → Paired (fun (t : Addr) (q : V × V) => H' t = some (.tup [q.1, q.2])) ts ((xs.zip ys).drop i) → R (.ok (.ret res)) s') →
    codeAny (model X.prog X.w) A (.builtin "list.extend.loop" ⟨[.ref S, .ref z, res], []⟩) R s := by
  intro k
  induction k with
  | zero =>
    intro i s H vs hk hi I hf hz hne hTI h1 h2 hqx hqy hS hv hR
    obtain ⟨its, rv, p1, _⟩ := I.tuple hqx
    obtain ⟨its2, rv2, p2, _⟩ := I.tuple hqy
    have l1 := rv.length
    have l2 := rv2.length
    have he : its.toArray[i]? = none ∨ its2.toArray[i]? = none := by
      rcases Nat.le_total xs.length ys.length with q | q
      · exact .inl (by simp; omega)
      · exact .inr (by simp; omega)
    refine codeAny_builtin PySem.F.entry_extend_loop ?_
    rw [Around.under_plainId PySem.F.plain_extend_loop _]
    show wpAny _ A.in1 (pyNext (.ref z) >>= _) _ _ s
    refine wpAny_bind (zipAny_end hh D hz hTI h1 h2 p1 p2 he fun h' hk' => wpAny_pure ?_)
    have J : Inv X pins σ H { s with heap := h' } := I.turnedL (t' := s.toks) (ch := [z, TI, TO, i1, i2]) (fun c o hb q => hk' c o (fun q' => hb (by simp [q'])) (fun q' => hb (by simp [q'])) (fun q' => hb (by simp [q'])) (fun q' => hb (by simp [q'])) q) hf
    refine hR _ H [] J (fun _ _ _ e => e) (by rw [List.map_nil, List.append_nil]; exact hS) (fun t ht => by cases ht) ?_
    rw [List.drop_eq_nil_of_le (by rw [List.length_zip]; omega)]
    exact .nil
  | succ k ih =>
    intro i s H vs hk hi I hf hz hne hTI h1 h2 hqx hqy hS hv hR
    obtain ⟨its, rv, p1, _⟩ := I.tuple hqx
    obtain ⟨its2, rv2, p2, _⟩ := I.tuple hqy
    have lx : i < xs.length := by omega
    have ly : i < ys.length := by omega
    obtain ⟨u, hu, ru⟩ := rv.get (List.getElem?_eq_getElem lx)
    obtain ⟨u2, hu2, ru2⟩ := rv2.get (List.getElem?_eq_getElem ly)
    refine codeAny_builtin PySem.F.entry_extend_loop ?_
    rw [Around.under_plainId PySem.F.plain_extend_loop _]
    show wpAny _ A.in1 (pyNext (.ref z) >>= _) _ _ s
    refine wpAny_bind (zipAny_item D hz hTI h1 h2 p1 p2 (x := u) (y := u2) (by simpa using hu) (by simpa using hu2) (fun h' T f1 oT zT z1 z2 n1 n2 n3 n4 zo a3 a4 a5 a6 a7 => ?_) fun T f1 q => ⟨(hne T f1 q).1, (hne T f1 q).2.1, (hne T f1 q).2.2.1, (hne T f1 q).2.2.2.1⟩)
    have nT : H s.heap.objs.size = none := I.hok.fresh (Nat.le_refl _)
    have neS : s.heap.objs.size ≠ S := fun q => by rw [q, hS] at nT; cases nT
    have new : ObjOk X.prog X.w (upd H s.heap.objs.size (.tup [xs[i], ys[i]])) h' s.heap.objs.size (.tup [xs[i], ys[i]]) := ⟨by show 2 ≤ sizeLine; decide, [u, u2], .cons ru (.cons ru2 .nil), ⟨_, a5, rfl, _, rfl⟩⟩
    have I1 : Inv X pins σ (upd H s.heap.objs.size (.tup [xs[i], ys[i]])) { s with heap := h' } :=
      I.turnedNew (t' := s.toks) (ch := [z, TI, TO, i1, i2]) (fun c o hb q => a7 c o (fun q' => hb (by simp [q'])) (fun q' => hb (by simp [q'])) (fun q' => hb (by simp [q'])) (fun q' => hb (by simp [q'])) q) hf (Nat.le_refl _) new
    have hS1 : upd H s.heap.objs.size (.tup [xs[i], ys[i]]) S = some (.lst vs) := by rw [upd_ne neS.symm]; exact hS
    obtain ⟨sits, sn, sr, sho, sz⟩ := I1.lst hS1
    show wpAny _ A.in1 (updateSeq S (·.push (.ref s.heap.objs.size)) >>= _) _ _ _
    have lv := sr.length
    have nTS : T ≠ S := by
      rcases zT with rfl | ⟨f0, q⟩
      · exact neS
      · exact (hne T f0 q).2.2.2.2
    refine wpAny_bind (wpAny_updateSeq sho rfl (wpAny_pure ⟨plainId_quiet PySem.F.plain_extend_loop _, ?_⟩) ?_ ?_)
    · have I2 := I1.lstUpd (f := Obj.mapSeq (·.push (.ref s.heap.objs.size))) (its' := sits ++ [Value.ref s.heap.objs.size]) (ys := vs ++ [V.ref s.heap.objs.size]) hS1 sho (by simp only [Obj.mapSeq, List.push_toArray]; rfl) (sr.append (.cons rfl .nil)) (by rw [List.length_append, List.length_singleton, sizeLine_eq]; omega) s.toks
      have upS : ∀ c o, c ≠ S → h'.get? c = some o → (h'.update S (Obj.mapSeq (·.push (.ref s.heap.objs.size)))).get? c = some o := fun c o hc e => (Heap.get?_update_other _ _ (Ne.symm hc)).trans e
      have hH : ∀ c o, c ≠ S → c ≠ s.heap.objs.size → H c = some o → upd (upd H s.heap.objs.size (.tup [xs[i], ys[i]])) S (.lst (vs ++ [V.ref s.heap.objs.size])) c = some o := fun c o c1 c2 e => by rw [upd_ne c1, upd_ne c2]; exact e
      have hq : ∀ {c : Addr} {l : List V}, SqT X.K H c l → SqT X.K (upd (upd H s.heap.objs.size (.tup [xs[i], ys[i]])) S (.lst (vs ++ [V.ref s.heap.objs.size]))) c l := fun {c l} q => sqt_same q fun o nm e => hH c o (fun q' => by rw [q', hS] at e; cases e; exact nm trivial) (fun q' => by rw [q', nT] at e; cases e) e
      refine ih (i + 1) _ _ _ (by omega) (by omega) I2 (fun c hc => ?_) (.inr ⟨T, f1, oT, upS _ _ hS5.1.symm z1, ?_, ?_⟩) (fun T' f' q => ?_) ?_ ?_ ?_ (hq hqx) (hq hqy) upd_same (by rw [List.length_append, List.length_singleton, hv]) fun s' H' ts J k1 k2 k3 k4 => ?_
      · have q := hf c hc
        refine ⟨?_, q.2⟩
        have hcS : c ≠ S := fun q' => by have := q.1; rw [q', hS] at this; cases this
        have hlt : c < s.heap.objs.size := by
          have e' : c = z ∨ c = TI ∨ c = TO ∨ c = i1 ∨ c = i2 := by simpa using hc
          obtain ⟨x0, y0, zo0⟩ : ∃ x0 y0, IsPair s.heap TO x0 y0 := by
            rcases hz with ⟨_, x0, y0, q⟩ | ⟨_, _, _, _, _, x0, y0, q⟩ <;> exact ⟨x0, y0, q⟩
          have lz : z < s.heap.objs.size := by
            rcases hz with ⟨q, _⟩ | ⟨_, _, _, q, _⟩ <;> exact Heap.lt_size q
          rcases e' with q | q | q | q | q
          · rw [q]; exact lz
          · rw [q]; exact Heap.lt_size hTI
          · rw [q]; exact Heap.lt_size zo0
          · rw [q]; obtain ⟨_, e1, _⟩ := h1; exact Heap.lt_size e1
          · rw [q]; obtain ⟨_, e1, _⟩ := h2; exact Heap.lt_size e1
        rw [upd_ne hcS, upd_ne (Nat.ne_of_lt hlt)]
        exact q.1
      · exact upS _ _ nTS z2
      · obtain ⟨x0, y0, q⟩ := zo
        exact ⟨x0, y0, upS _ _ hS5.2.2.1.symm q⟩
      · have e1 := q.symm.trans (upS _ _ hS5.1.symm z1)
        have e2 : rawInt (T' : Int) = rawInt (T : Int) ∧ f' = f1 := by simpa using e1
        have e3 : T' = T := by
          have e4 := e2.1
          unfold rawInt at e4
          injection e4 with e5
          exact Int.ofNat.inj e5
        subst e3
        exact ⟨n1, n2, n3, n4, nTS⟩
      · exact upS _ _ hS5.2.1.symm (a7 _ _ D.TIz D.TITO D.TIi1 D.TIi2 hTI)
      · exact a3.at fun o q => upS _ _ hS5.2.2.2.1.symm q
      · exact a4.at fun o q => upS _ _ hS5.2.2.2.2.symm q
      · refine hR s' H' (s.heap.objs.size :: ts) J (fun c o c1 e => k1 c o c1 (hH c o c1 (fun q => by rw [q, nT] at e; cases e) e)) (by rw [k2, List.map_cons, List.append_assoc]; rfl) (fun t ht => ?_) ?_
        · rcases List.mem_cons.mp ht with rfl | ht
          · exact nT
          · have q := k3 t ht
            by_cases h1 : t = S
            · rw [h1, upd_same] at q; cases q
            · rw [upd_ne h1] at q
              by_cases h2 : t = s.heap.objs.size
              · rw [h2]; exact nT
              · rw [upd_ne h2] at q; exact q
        · have e : (xs.zip ys).drop i = (xs[i], ys[i]) :: (xs.zip ys).drop (i + 1) := by
            rw [List.drop_eq_getElem_cons (by rw [List.length_zip]; omega), List.getElem_zip]
          rw [e]
          refine .cons (k1 _ _ neS ?_) k4
          rw [upd_ne neS, upd_same]
    · rw [List.size_toArray, sizeLine_eq]; omega
    · show (sits.toArray.push _).size ≤ sizeLine + 1
      rw [Array.size_push, List.size_toArray, sizeLine_eq]; omega
end
end Dat
set_option Elab.async false
set_option linter.all false
set_option maxRecDepth 100000
set_option maxHeartbeats 4000000
namespace Dat
open PySem PySem.Spec PyProof.Rows L2 RZ
theorem zip_nolen : typeLookup (.type "zip") "__len__" = pure none := by rw [typeLookup_type, builtinLookup_eq_fast]; kernel_rfl
theorem zip_nohint : typeLookup (.type "zip") "__length_hint__" = pure none := by rw [typeLookup_type, builtinLookup_eq_fast]; kernel_rfl
/-- list(zip(t, u)) -/
def tZipL (K : PySem.W.Frag) (ta : TA) : TE := fun σ H Q => ta σ H fun vs H1 => ∃ (a b : Addr) (xs ys : List V), vs = [.ref a, .ref b] ∧ SqT K H1 a xs ∧ SqT K H1 b ys ∧ xs.length ≤ 1000000 ∧
  ∀ (S : Addr) (H' : Hp) (ts : List Addr), H1 S = none → (∀ c o, H1 c = some o → H' c = some o) → H' S = some (.lst (ts.map V.ref)) → (∀ t ∈ ts, H1 t = none) → Paired (fun (t : Addr) (q : V × V) => H' t = some (.tup [q.1, q.2])) ts (xs.zip ys) → Q (.ref S) H'
section
variable {X : Cx} {e e2 : Expr} {ta : TA} {p p2 pos cpos : Pos}
theorem pe_listZip (hc : X.calm = true) (hg : Gl X "list") (hm : X.mg "list" = none) (hgz : Gl X "zip") (hmz : X.mg "zip" = none) (ha : PA X [e, e2] ta)
    (hs : starEach [.Call (.Name "zip" p2) [e, e2] [] cpos] X.env = (false, eval (.Call (.Name "zip" p2) [e, e2] [] cpos) X.env) :: starEach [] X.env := by rfl)
    (hs2 : starEach [e, e2] X.env = (false, eval e X.env) :: starEach [e2] X.env := by rfl) (hpl2 : (backTo cpos (starEach [e2] X.env)).any (·.1) = false := by rfl) :
    PE X (.Call (.Name "list" p) [.Call (.Name "zip" p2) [e, e2] [] cpos] [] pos) (tZipL X.K ta) := by
  refine ⟨fun pins s σ H Q I h => ?_⟩
  refine wpAny_Call_Name_kw (ld_blt (u := .type "list") I hg hm (by decide +kernel) ?_)
  refine PyProof.Rows.callWith_type1 ?_ hs rfl
  rw [hs]
  show wpAny _ _ (spliced ((false, eval (.Call (.Name "zip" p2) [e, e2] [] cpos) X.env) :: backTo pos (starEach [] X.env))) _ _ s
  refine Calls.spliced_cons ?_
  refine Call_ (ld_blt I hgz hmz PyProof.Rows.boot_zip (PyProof.Rows.callWith_type1 (thn (ha.run cpos pins s σ H _ I h) fun us s1 ⟨vs, H1, I1, r1, a, b, xs, ys, ev, hqx, hqy, hxl, q⟩ => ?_) hs2 hpl2))
  subst ev
  cases r1 with
  | cons r rr =>
    cases rr with
    | cons r' rr =>
      cases rr
      cases r
      cases r'
      obtain ⟨its, rv, q1, _⟩ := I1.tuple hqx
      obtain ⟨its2, rv2, q2, _⟩ := I1.tuple hqy
      obtain ⟨o1, ho1, _⟩ := id q1
      obtain ⟨o2, ho2, _⟩ := id q2
      refine call_zipT (show s1.heap.IsTuple a its.toArray from q1) (show s1.heap.IsTuple b its2.toArray from q2) fun h1 hz hTI hTO k1 k2 hsz hk => ?_
      refine Calls.spliced_nil ?_
      have I2 : Inv X pins σ H1 { s1 with heap := h1 } := I1.kept (t' := s1.toks) hk
      have fr : ∀ c, s1.heap.objs.size ≤ c → H1 c = none := fun c hc => I1.hok.fresh hc
      have hA : X.A.handled = none := I1.ok.hd hc
      have D := PySem.W.ktu_apart s1.heap.objs.size a b (Heap.lt_size ho1) (Heap.lt_size ho2)
      -- behind the list is made and emptied
      have go : ∀ (A : Around) (R : Result → Shared → Prop) (h5 : Heap) (t5 c5 : Nat), A.handled = none → (∀ c o, h1.get? c = some o → h5.get? c = some o) → h5.get? h1.objs.size = some { cls := .type "list", data := .seq #[] c5 } →
          (∀ s' H', Inv X pins σ H' s' → Q (V.ref h1.objs.size) H' → R (.ok (.ret .none)) s') →
          codeAny (model X.prog X.w) A (.builtin "list.extend.loop" ⟨[.ref h1.objs.size, .ref (s1.heap.objs.size + 4), .none], []⟩) R { s1 with heap := h5, toks := t5 } := by
        intro A R h5 t5 c5 hA5 k5 hS5 hR
        have I5 : Inv X pins σ (upd H1 h1.objs.size (.lst [])) { s1 with heap := h5, toks := t5 } := I2.laid (t' := t5) (a := h1.objs.size) (o := .lst []) k5 (Nat.le_refl _) ⟨Nat.zero_le _, [], c5, .nil, hS5⟩
        have nS : H1 h1.objs.size = none := fr _ (by omega)
        have qq : ∀ {c : Addr} {l : List V}, SqT X.K H1 c l → SqT X.K (upd H1 h1.objs.size (.lst [])) c l := fun {c l} z => sqt_same z fun o _ e => by rw [upd_ne (ne_of_none e nS)]; exact e
        have n4 : h1.objs.size ≠ s1.heap.objs.size + 4 := by omega
        have n2 : h1.objs.size ≠ s1.heap.objs.size + 2 := by omega
        have n3 : h1.objs.size ≠ s1.heap.objs.size + 3 := by omega
        have n0 : h1.objs.size ≠ s1.heap.objs.size := by omega
        have n1 : h1.objs.size ≠ s1.heap.objs.size + 1 := by omega
        have ok : ∀ c : Nat, s1.heap.objs.size ≤ c → c ≠ h1.objs.size → FpOk X pins (upd H1 h1.objs.size (.lst [])) c := fun c hle hne => I1.fpOk hle (by rw [upd_ne hne]; exact fr c hle)
        refine zip_loop (S := h1.objs.size) (ys := ys) hA5 D ⟨n4, n2, n3, n0, n1⟩ hxl _ 0 _ _ [] rfl (Nat.zero_le _) I5 (fun c hcm => ?_) (.inl ⟨k5 _ _ hz, _, _, k5 _ _ hTO⟩) (fun T f1 z => ?_) (k5 _ _ hTI) (k1.at fun o z => k5 _ _ z) (k2.at fun o z => k5 _ _ z) (qq hqx) (qq hqy) upd_same rfl fun s' H' ts J m1 m2 m3 m4 => ?_
        · have e' : c = s1.heap.objs.size + 4 ∨ c = s1.heap.objs.size + 2 ∨ c = s1.heap.objs.size + 3 ∨ c = s1.heap.objs.size ∨ c = s1.heap.objs.size + 1 := by simpa using hcm
          rcases e' with rfl | rfl | rfl | rfl | rfl
          · exact ok _ (Nat.le_add_right _ _) n4.symm
          · exact ok _ (Nat.le_add_right _ _) n2.symm
          · exact ok _ (Nat.le_add_right _ _) n3.symm
          · exact ok _ (Nat.le_refl _) n0.symm
          · exact ok _ (Nat.le_add_right _ _) n1.symm
        · have e1 := z.symm.trans (k5 _ _ hz)
          simp [rawInt] at e1
        · refine hR s' H' J (q _ H' ts nS (fun c o e => m1 c o (ne_of_none e nS) (by rw [upd_ne (ne_of_none e nS)]; exact e)) m2 (fun t ht => ?_) m4)
          have z := m3 t ht
          by_cases h2 : t = h1.objs.size
          · rw [h2]; exact nS
          · rw [upd_ne h2] at z; exact z
      refine callType_codes (Q₁ := fun ob sh => ob = .ref h1.objs.size ∧ sh = { s1 with heap := h1.push { cls := .type "list", data := .seq #[] } }) PySem.F.called_list (PySem.F.typeCall_list_1 _) PySem.F.entry_list_init (code_list_new _ ⟨rfl, rfl⟩) fun ob sh e => ?_
      obtain ⟨rfl, rfl⟩ := e
      have g0 : (h1.push { cls := .type "list", data := .seq #[] }).get? h1.objs.size = some { cls := .type "list", data := .seq #[] } := Heap.get?_push_size _ rfl
      have neZ : h1.objs.size ≠ s1.heap.objs.size + 4 := by omega
      refine ⟨⟨_, g0, rfl⟩, PySem.F.args_list_init_2 _ _, ?_⟩
      show wpAny _ _ (Builtin.List.listItems (.ref h1.objs.size) >>= _) _ _ _
      refine wpAny_bind ?_
      unfold Builtin.List.listItems
      refine wpAny_bind (wpAny_seqItems g0 rfl (wpAny_pure ?_))
      show wpAny _ _ (updateSeq h1.objs.size (fun _ => #[]) >>= _) _ _ _
      refine wpAny_bind (wpAny_updateSeq g0 rfl ?_)
      refine wpAny_bind (wpAny_letGo ?_)
      have g1 := Heap.get?_update_self (Obj.mapSeq (fun _ => (#[] : Array Value))) g0 rfl
      have kk : ∀ (f : Obj → Obj) (c : Addr) (o : Obj) (g : Heap), c ≠ h1.objs.size → g.get? c = some o → (g.update h1.objs.size f).get? c = some o := fun f c o g hc e => (Heap.get?_update_other _ _ (Ne.symm hc)).trans e
      have z1 := kk (Obj.mapSeq (fun _ => (#[] : Array Value))) _ _ _ neZ.symm (Heap.get?_push_of_some { cls := .type "list", data := .seq #[] } hz)
      unfold Builtin.List.listExtendWith
      refine wpAny_bind (wpAny_typeOf (T := "zip") ⟨_, z1, rfl⟩ ?_)
      have nr : Builtin.List.listSameRef (.ref h1.objs.size) (.ref (s1.heap.objs.size + 4)) = false := by simp [Builtin.List.listSameRef, neZ]
      simp only [nr, show (Value.type "zip" == Value.type "list") = false from by decide, show (Value.type "zip" == Value.type "tuple") = false from by decide, Bool.or_false, Bool.false_eq_true, if_false]
      refine wpAny_bind (wpAny_pyIter_zip z1 ?_)
      refine wpAny_bind (wpAny_holding ?_)
      have tz : Shared.TypeIs { s1 with heap := (h1.push { cls := .type "list", data := .seq #[] }).update h1.objs.size (Obj.mapSeq (fun _ => (#[] : Array Value))) } (.ref (s1.heap.objs.size + 4)) "zip" := ⟨_, z1, rfl⟩
      unfold Builtin.List.listLengthHint
      refine wpAny_bind (wpAny_specialOf tz zip_nolen ?_)
      refine wpAny_bind (wpAny_specialOf tz zip_nohint ?_)
      refine wpAny_pure ?_
      simp only [Bool.true_or, if_true]
      refine wpAny_bind (wpAny_rule (wpAny_bind ?_))
      show wpAny _ _ (updateSeq h1.objs.size (·.push .none) >>= fun _ => updateSeq h1.objs.size (·.pop)) _ _ _
      refine wpAny_bind (wpAny_updateSeq g1 rfl ?_)
      have g2 := Heap.get?_update_self (Obj.mapSeq (·.push Value.none)) g1 rfl
      refine wpAny_updateSeq (hz := by seq_fits) g2 rfl ?_
      have g3 := Heap.get?_update_self (Obj.mapSeq (·.pop)) g2 rfl
      refine wpAny_pure ⟨plainId_quiet PySem.F.plain_extend_loop _, go X.A.in1 _ _ _ _ hA (fun c o e => ?_) g3 fun s' H' J w => ⟨rfl, V.ref h1.objs.size, H', J, rfl, w⟩⟩
      have nc : c ≠ h1.objs.size := Nat.ne_of_lt (Heap.lt_size e)
      exact kk _ _ _ _ nc (kk _ _ _ _ nc (kk _ _ _ _ nc (Heap.get?_push_of_some _ e)))
end
end Dat
set_option Elab.async false
set_option linter.all false
set_option maxRecDepth 100000
set_option maxHeartbeats 4000000
/-! list(zip(..)), i += e, x is None over data; suites of an except that call nothing. -/
namespace Dat
open PySem PySem.Spec PyProof.Rows L2 RZ
def zipD (p : PyData × PyData) : PyData := .tuple [p.1, p.2]
theorem zip_rp {K : KW} {M : MS} {H H' : Hp} (ml : ∀ a, M a → Mut (H a)) (sm : Same H H') : ∀ (xs ys : List V) (as bs : List PyData) (ts : List Addr), RpAll K M H xs as → RpAll K M H ys bs → Paired (fun (t : Addr) (q : V × V) => H' t = some (.tup [q.1, q.2])) ts (xs.zip ys) → RpAll K M H' (ts.map V.ref) ((as.zip bs).map zipD)
  | [], ys, _, _, ts, r1, r2, h => by
    cases r1
    cases h
    exact .nil
  | x :: xs, [], _, _, ts, r1, r2, h => by
    cases r2
    cases r1
    cases h
    exact .nil
  | x :: xs, y :: ys, _, _, ts, r1, r2, h => by
    cases r1 with
    | cons q1 r1 =>
      cases r2 with
      | cons q2 r2 =>
        cases h with
        | cons h1 h =>
          exact .cons (.tup (SqT.of h1) (.cons (q1.same ml sm) (.cons (q2.same ml sm) .nil))) (zip_rp ml sm xs ys _ _ _ r1 r2 h)
section
variable {Z : XC} {X : Cx} {e e2 : Expr} {ta : TA} {te : TE} {wr : WA} {we : WE} {p p2 pos cpos : Pos}
def fZip : List PyData → Option PyData
  | [.tuple as, .tuple bs] => if as.length ≤ 1000000 then some (.list ((as.zip bs).map zipD)) else none
  | _ => none
theorem d_listZip (hg : Gl X "list") (hm : X.mg "list" = none) (hgz : Gl X "zip") (hmz : X.mg "zip" = none) (ha : PAd Z X [e, e2] ta wr) (hc : X.calm = true := by rfl)
    (hs : starEach [.Call (.Name "zip" p2) [e, e2] [] cpos] X.env = (false, eval (.Call (.Name "zip" p2) [e, e2] [] cpos) X.env) :: starEach [] X.env := by rfl)
    (hs2 : starEach [e, e2] X.env = (false, eval e X.env) :: starEach [e2] X.env := by rfl) (hpl2 : (backTo cpos (starEach [e2] X.env)).any (·.1) = false := by rfl) :
    PEd Z X (.Call (.Name "list" p) [.Call (.Name "zip" p2) [e, e2] [] cpos] [] pos) (tZipL X.K ta) (wCB fZip wr) := by
  refine ⟨pe_listZip hc hg hm hgz hmz ha.p hs hs2 hpl2, fun F G M σ H ρ R P hw Q k => ?_⟩
  refine ha.i F G M σ H ρ R _ hw _ fun xs ρ1 vs M1 H1 R1 r1 ⟨z, ez, q⟩ => ?_
  unfold fZip at ez
  split at ez
  · rename_i as bs
    split at ez
    · rename_i hl
      cases ez
      cases r1 with
      | cons r r1 =>
        cases r1 with
        | cons r' r1 =>
          cases r1
          cases r with
          | tup h1 h2 =>
            cases r' with
            | tup h3 h4 =>
              refine ⟨_, _, _, _, rfl, h1, h3, by rw [h2.length]; exact hl, fun S H' ts nS sm hS _ hp => ?_⟩
              exact k _ ρ1 _ M1 H' (R1.same sm) (.lst (R1.r.notM nS) hS (zip_rp R1.ml sm _ _ _ _ _ h2 h4 hp)) q
    · cases ez
  · cases ez
/-! i += e -/
def wAug (k : Nat) (we : WE) : WS := fun E ρ => ∃ i, ρ[k]? = some (some (.d (.int i))) ∧ we ρ fun y ρ1 => ∃ j, y = .int j ∧ E.nx (ρ1.set k (some (.d (.int (i + j)))))
theorem s_aug {k : Nat} {x : Str} {pos' : Pos} (hN : X.N.Nodup) (he : PEd Z X e te we) (hi : X.N[k]? = some x := by rfl) (hx : Loc X.env.scope x := by first | exact Or.inl rfl | exact Or.inr rfl) (hf : X.fn x = true ∨ X.env.scope.names.lookup x = some .local := by first | exact .inl rfl | exact .inr rfl | assumption) :
    PSd Z X (.AugAssign (.Name x pos') .Add e pos) (tAug k te (ipI fun i j => i + j)) (wAug k we) := by
  refine ⟨ps_aug hN hi hx he.p ip_add hf, fun F G M σ H ρ R E hw D cn => ?_⟩
  obtain ⟨i, e1, hw⟩ := hw
  obtain ⟨v, h1, h2⟩ := R.r.dat e1
  cases h2
  refine ⟨_, h1, ?_⟩
  refine he.i F G M σ H ρ R _ hw _ fun y ρ1 u M1 H1 R1 r1 ⟨j, ej, q⟩ => ?_
  subst ej
  cases r1
  exact ⟨i, j, rfl, rfl, cn.nx _ M1 _ H1 (R1.r.put k (.int (i + j))) q⟩
/-! x is None -/
def fIsN : PyData → PyData → Option PyData
  | x, .none => some (.bool (match x with | .none => true | _ => false))
  | _, _ => none
def fNotN : PyData → PyData → Option PyData
  | x, .none => some (.bool (match x with | .none => false | _ => true))
  | _, _ => none
def rNon (b : Bool) : R2 := fun x y H Q => y = .non ∧ Q (.bl (decide (x = .non) != b)) H
theorem op_isNon {X : Cx} : OpR X (compareOp .Is) (rNon false) := fun pins s σ H x y v u Q I rx ry ⟨h1, h2⟩ => op_isN pins s σ H x y v u Q I rx ry ⟨h1, by simpa using h2⟩
theorem op_notNon {X : Cx} : OpR X (compareOp .IsNot) (rNon true) := fun pins s σ H x y v u Q I rx ry ⟨h1, h2⟩ => op_notN pins s σ H x y v u Q I rx ry ⟨h1, by simpa using h2⟩
theorem l_isN {K : KW} : LiftR K (rNon false) fIsN := by
  intro M H x y z v u ml e rx ry Q k
  cases ry <;> first | (simp only [fIsN] at e; cases e; refine ⟨rfl, k _ H (Same.refl H) ?_⟩; cases rx <;> exact .bl _) | (cases e)
theorem l_notN {K : KW} : LiftR K (rNon true) fNotN := by
  intro M H x y z v u ml e rx ry Q k
  cases ry <;> first | (simp only [fNotN] at e; cases e; refine ⟨rfl, k _ H (Same.refl H) ?_⟩; cases rx <;> exact .bl _) | (cases e)
/-! a suite that calls nothing -/
theorem PBd.h {a : Addr} {oe : Obj} {b : List Stmt} {t : TS} {w : WS} (h : PBd Z X b t w) : PBh a oe Z X b t w := ⟨h.p, fun F G M σ H ρ _ => h.i F G M σ H ρ⟩
end
end Dat
set_option Elab.async false
set_option linter.all false
set_option maxRecDepth 100000
set_option maxHeartbeats 4000000
/-! try .. except C: suite without a name; >= of data; int(x). -/
namespace Dat
open PySem PySem.Spec PyProof.Rows L2 RZ
def wTryN (c : Str) (wb : WXd → WS) (ws : WS) : WS := fun E ρ => wb (fun ex ρ' => ex.c = c ∧ ws E ρ') E ρ
def tSuN (X : Cx) (suite : List Stmt) (a : Addr) (cls : Value) (d : Option Addr) : TS := fun D σ H => ∀ (oe : Obj) (pn : List (Addr × Obj)), L2N.Zn cls d oe → (∃ vs, oe.data = .fields vs) → ∃ t, PSs (X.suite a ((a, oe) :: pn)) suite t ∧ t D σ H
section
variable {Z : XC} {X : Cx} {x : Str} {body suite : List Stmt} {b0 : Stmt} {np pos pos' : Pos} {wb : WXd → WS} {ws : WS}
theorem s_tryN (hex : PySem.W.exmOne X.K (.ref (He.ga X.K x)) (.ref (He.ga X.K x)) = some true) (tk : L2N.Takes X Z.W) (hz : Z.mg = X.mg) (hm : X.mg x = some (.ref (He.ga X.K x)))
    (hb : ∀ (W : WX) (zx : WXd) (pn : List (Addr × Obj)) (xe : Value → Shared → Prop), L2N.Takes (X.tr pn xe) W → ∃ t, PBd ⟨Z.mg, W, zx⟩ (X.tr pn xe) body t (wb zx))
    (hsu : ∀ (a : Addr) (oe : Obj) (pn : List (Addr × Obj)), PXN.CtxN oe → (∃ fv, oe.data = .fields fv) → ∃ t, PBd (Z0 X.mg) (X.suite a ((a, oe) :: pn)) (b0 :: suite) t ws)
    (hs : X.stack = X.env :: X.outer := by rfl) (hf : X.env.frame = some X.env.locals := by rfl) (hg : Gl X x := by rfl) (hdb : (x == ("__debug__" : Str)) = false := by decide) :
    PSd Z X (.Try body [.ExceptHandler (some (.Name x np)) none (b0 :: suite) pos'] [] [] pos)
      (fun D σ H => tTryB X body (wMany X.K Z.W D [(.ref (He.ga X.K x), tSuN X (b0 :: suite))]) D σ H) (wTryN x wb ws) := by
  refine ⟨L2N.ps_try_many hs hf tk (fun W pn xe tw _ => ?_) (.cons ⟨hg, hdb, .inl hm⟩ (fun a oe cls d pn hzn hfv => ?_) .nil), fun F G M σ H ρ R E hw D cn => ?_⟩
  · refine ⟨fun pins s σ H D I h => ?_⟩
    obtain ⟨t, h1, h2⟩ := h pn xe tw
    exact h1.run pins s σ H D I h2
  · refine ⟨fun pins s σ H D I h => ?_⟩
    obtain ⟨t, h1, h2⟩ := h oe pn hzn hfv
    exact h1.run pins s σ H D I h2
  · intro pn xe tw
    obtain ⟨t, ht⟩ := hb _ (fun ex ρ' => ex.c = x ∧ ws E ρ') pn xe tw
    refine ⟨t, ht.p, ht.i F G M σ H ρ ⟨R.r, ?_⟩ E hw D cn⟩
    intro ex cls d ρ' M' σ' H' R' hc hxd ⟨ec, q⟩
    have hc : Z.mg ex.c = some cls := hc
    rw [ec, hz, hm] at hc
    cases hc
    refine ⟨true, hex, fun _ a na => ?_, fun z => by cases z⟩
    intro oe pn2 hzn hfv
    obtain ⟨t2, ht2⟩ := hsu a oe pn2 hzn.2.2 hfv
    exact ⟨t2, ht2.p, ht2.i F G M' _ _ _ ⟨R', fun _ _ _ _ _ _ _ _ _ _ z => z.elim⟩ _ q _ cn⟩
end
/-! ### >= of data -/
def notNon : PyData → Bool
  | .none => false
  | _ => true
theorem notNon_of {x : PyData} (h : notNon x = true) : x ≠ .none := fun e => by subst e; cases h
def fGeD (x y : PyData) : Option PyData := if (PySem.W.alike x y && (notNon x && (decide (x.depth ≤ 60) && (!x.hasDict && !y.hasDict)))) = true then some (.bool (!PySem.W.dataLt x y)) else none
def rGeD (K : KW) : R2 := fun x y H Q => ∃ d e, Dp K H x d ∧ Dp K H y e ∧ PySem.W.alike d e = true ∧ d ≠ .none ∧ d.depth ≤ 60 ∧ Q (.bl (!PySem.W.dataLt d e)) H
theorem op_geD {X : Cx} (hu : X.A.units + 64 < cLine) : OpR X (compareOp .GtE) (rGeD X.kw) := by
  intro pins s σ H x y v u Q I rx ry h
  obtain ⟨d, e, hd, he, h1, h2, h3, q⟩ := h
  obtain ⟨as, r1⟩ := Dp.reads I d x v hd rx
  obtain ⟨bs, r2⟩ := Dp.reads I e y u he ry
  exact PySem.W.ge_data r1 r2 h1 h2 (by have := Nat.min_le_left d.depth e.depth; omega) ⟨.bl _, H, I, rfl, q⟩
theorem l_geD {K : KW} : LiftR K (rGeD K) fGeD := by
  intro M H x y z v u ml e rx ry Q k
  unfold fGeD at e
  split at e
  · cases e
    rename_i h
    simp only [Bool.and_eq_true, decide_eq_true_eq, Bool.not_eq_true'] at h
    obtain ⟨h1, h2, h3, h4, h5⟩ := h
    exact ⟨x, y, Rp.dp x v h4 rx, Rp.dp y u h5 ry, h1, notNon_of h2, h3, k _ H (Same.refl H) (.bl _)⟩
  · cases e
/-! ### int(x) -/
def fInt : PyData → Option PyData
  | .int i => some (.int i)
  | .bool b => some (.int (if b = true then 1 else 0))
  | _ => none
theorem l_int {K : KW} : LiftC K (fun xs H Q => (∃ i, xs = [.int i] ∧ Q (.int i) H) ∨ ∃ k, xs = [.bl k] ∧ Q (.int (if k then 1 else 0)) H) (f1 fInt) := by
  intro M H xs z vs ml e r Q k
  replace e := f1_some e
  obtain ⟨x, rfl, e⟩ := e
  cases r with
  | cons r t =>
    cases t
    cases r with
    | int _ =>
      simp only [fInt] at e
      cases e
      exact .inl ⟨_, rfl, k _ H (Same.refl H) (.int _)⟩
    | bl _ =>
      simp only [fInt] at e
      cases e
      exact .inr ⟨_, rfl, k _ H (Same.refl H) (.int _)⟩
    | _ => simp [fInt] at e
end Dat
set_option Elab.async false
set_option linter.all false
set_option maxRecDepth 100000
set_option maxHeartbeats 4000000
/-! Comprehensions of dicts whose keys are tuples; len of such a dict; in as a value; sorted of data; is True. -/
namespace Dat
open PySem PySem.Spec PyProof.Rows L2 RZ
def putD (ek ev : Expr) (env : Env) (acc : Value) (rest : Sem Fin) : Sem Fin := do
  (do
    let k ← eval ek env
    let v ← holding [k] (eval ev env)
    standAt { ek.pos with endLine := ev.pos.endLine, endCol := ev.pos.endCol }
    match acc with
    | .ref d => holding [k, v] (dictSet d k v)
    | _ => pure ())
  rest
abbrev TurnsR (C : Expr) (k : Nat) (t i : Expr) (ifs : List Expr) (yes : Env → Value → Sem Fin → Sem Fin) : Prop := ∀ (it : Value) (D : Addr) (env : Env), compTurn C k it (.ref D) env = turnG t i ifs it env (yes env (.ref D) (again (.compLoop C k it (.ref D) env))) (again (.compLoop C k it (.ref D) env))
theorem turnsD {ek ev t0 i0 : Expr} {ifs0 : List Expr} {scope : Scope} {pos : Pos} : TurnsR (.DictComp ek ev [⟨t0, i0, ifs0, 0⟩] scope pos) 0 t0 i0 ifs0 (putD ek ev) := fun _ _ _ => rfl
def tDcN (K : KW) (wi : TI) (g : BF TG) (tt : BF TT) (tk : BF TK) (vs : List Nat) : TE := fun σ H Q => wi σ H fun J H1 => ∀ D, H1 D = none → ∀ (s : Shared) (H' : Hp) (C : Addr) (cl : List (Str × Addr)) (fp : List Addr), ∃ W : Nat → Nat → Hp → Prop, (∃ m, W 0 m (upd H1 D (DNO K.P K.w D []))) ∧ turns J (g s H' C cl fp) (tt s H' C cl fp) (tk s H' C cl fp) vs σ D W fun H2 => Q (.ref D) H2

theorem cl_loopD {ok : Cx → Prop} {Y : Cx} {ek ev : Expr} {gl : List Comprehension} {sl : Scope} {pl : Pos} {k : Nat} {t i : Expr} {ifs : List Expr} {yes : Env → Value → Sem Fin → Sem Fin} {vs vs' : List Nat} {g : TG} {tt : TT} {tk : TK} (hc : ok Y) (hx : Y.xe = fun _ _ => False) (hT : TurnsR (.DictComp ek ev gl sl pl) k t i ifs yes)
    (pg : PG Y t g) (pt : PTs Y ifs tt) (pa : PAct Y yes vs' tk) (hv : ∀ j ∈ vs', j ∈ vs) {pins : List (Addr × Obj)} {s : Shared} {σ : L2.St} {H : Hp} {D it : Addr} {fp : List Addr} {tn : Nat → Heap → Prop} {J : It} {W : Nat → Nat → Hp → Prop} {Nx : Hp → Prop} {m0 : Nat} {R : Result → Shared → Prop}
    (I : Inv Y pins (wipe σ vs) H s) (T : TurnG ok Y.prog Y.w Y.K t J fp it tn) (st : tn 0 s.heap) (f : ∀ b ∈ fp, FpOk Y pins H b) (w0 : W 0 m0 H) (turn : turns J g tt tk vs σ D W Nx)
    (hR : ∀ s' H', Inv Y pins (wipe σ vs) H' s' → Nx H' → R (.ok .next) s') : codeAny (model Y.prog Y.w) Y.A (.compLoop (.DictComp ek ev gl sl pl) k (.ref it) (.ref D) Y.env) R s := by
  have stat : ∀ {H' : Hp}, (∀ b ∈ fp, H' b = none) → ∀ b ∈ fp, FpOk Y pins H' b := fun hn b hb => ⟨hn b hb, (f b hb).2⟩
  refine codeAny_loop rfl (fun n s' => ∃ j H', Inv Y pins (wipe σ vs) H' s' ∧ tn j s'.heap ∧ (∀ b ∈ fp, H' b = none) ∧ W j n H') (fun n s1 ⟨j, H1, I1, st1, n1, w1⟩ => ?_) m0 ⟨0, H, I, st, fun b hb => (f b hb).1, w0⟩
  show wpAny _ Y.A ((compTurn (.DictComp ek ev gl sl pl) k (.ref it) (.ref D) Y.env).onRaise (fun x => do noteFrame x Y.env; theTreesLotGoes x)) _ _ s1
  refine wpAny_noted ?_
  rw [hT]
  unfold turnG
  refine wpAny_bind (wpAny_standAt (wpAny_bind ?_))
  rcases turn j n H1 w1 with ⟨stop, nx⟩ | ⟨go, Ny, hNy, step⟩
  · refine thnF (T.done Y rfl rfl rfl hc j pins s1 _ H1 (fun _ _ => False) I1 (stat n1) st1 stop) fun r s2 ⟨hr, I2⟩ => ?_
    subst hr
    exact wpAny_pure (hR s2 H1 I2 nx)
  · refine thnF (T.item Y rfl rfl rfl hc j pins s1 _ H1 (fun _ _ => False) I1 (stat n1) st1 go) fun r s2 ⟨u, hr, h2⟩ => ?_
    subst hr
    refine wpAny_bind (thnF h2 fun _ s3 ⟨x, H3, I3, r3, y3, st3, n3⟩ => ?_)
    have I3' := I3.pinned (stat n3) (T.obj _ _ st3)
    refine wpAny_bind (thnX hx (pg.run _ s3 _ H3 x u _ I3' r3 (step x H3 y3)) fun _ s4 ⟨σ4, H4, I4, hw4, q4⟩ => ?_)
    refine wpAny_bind (thnX hx (pt.run _ s4 σ4 H4 _ I4 q4) fun b s5 ⟨H5, I5, q5⟩ => ?_)
    have fin : ∀ {σ5 : L2.St} {s' : Shared} {H' : Hp}, Inv Y (pins ++ pinsAt fp s3.heap) σ5 H' s' → (wipe σ vs).length = σ5.length → (∀ (l : Nat) v, (wipe σ vs)[l]? = some (some v) → σ5[l]? = some (some v)) → Ny H' → ∃ m, m < n ∧ ∃ j H', Inv Y pins (wipe σ vs) H' s' ∧ tn j s'.heap ∧ (∀ b ∈ fp, H' b = none) ∧ W j m H' := fun {σ5 s' H'} I' hl hk nx => by
      obtain ⟨m', hm, w'⟩ := hNy H' nx
      have pin' : ∀ b ∈ fp, ∀ o, s3.heap.get? b = some o → s'.heap.get? b = some o ∧ H' b = none := fun b hb o e =>
        let z := I'.pin (b, o) (List.mem_append_right _ (List.mem_append_right _ (mem_pinsAt hb e)))
        ⟨z.1, z.2.1⟩
      refine ⟨m', hm, j + 1, H', I'.unpinned.weak hl hk, T.keep _ _ _ st3 fun b hb o e => (pin' b hb o e).1, fun b hb => ?_, w'⟩
      obtain ⟨o, e, _⟩ := T.obj _ _ st3 b hb
      exact (pin' b hb o e).2
    have hl4 : (wipe σ vs).length = σ4.length := by rw [← hw4, wipe_length]
    cases b with
    | false =>
      simp only [Bool.false_eq_true, if_false] at q5 ⊢
      exact wpAny_pure ⟨rfl, fin I5 hl4 (fun l v e => by rw [← hw4] at e; exact (wipe_some e).1) q5⟩
    | true =>
      simp only [if_true] at q5 ⊢
      refine pa.run _ s5 σ4 H5 D Ny _ _ _ I5 q5 fun s6 H6 I6 nx => wpAny_pure ⟨rfl, fin I6 (hl4.trans (wipe_length σ4 vs').symm) (fun l v e => ?_) nx⟩
      rw [← hw4] at e
      obtain ⟨e1, e2⟩ := wipe_some e
      rw [wipe_out fun z => e2 (hv l z)]
      exact e1
section
variable {X : Cx} {pins : List (Addr × Obj)} {s : Shared} {σ : L2.St} {H : Hp} {Q : VK} {kx vx tg iter : Expr} {ifs : List Expr} {gs : List Comprehension} {scope : Scope} {own : List (Str × Nat)} {pos pos' : Pos} {wi : TI} {g : BF TG} {tt : BF TT} {tk : BF TK} {use : Option (Value → Sem Unit)} {Qf : Value → Shared → Prop} {yes : Env → Value → Sem Fin → Sem Fin} {vs' : List Nat}
theorem dcN_core {okc : Cx → Prop} (hc : ∀ {pins : List (Addr × Obj)} {σ : L2.St} {H : Hp} {s : Shared}, Inv X pins σ H s → ∀ ce fp, okc (X.blk s H scope ce fp)) (hN : X.N.Nodup) (I : Inv X pins σ H s) (hi : PIG okc X tg iter wi) (ok : BlkOk X.N X.env.scope scope own) (hT : TurnsR (.DictComp kx vx (⟨tg, iter, ifs, 0⟩ :: gs) scope pos) 0 tg iter ifs yes) (hv : ∀ j ∈ vs', j ∈ own.map (·.2))
    (hg : ∀ (s : Shared) (H : Hp) (C : Addr) (cl : List (Str × Addr)) (fp : List Addr), PG (X.blk s H scope (compEnvC scope cl C X.env) fp) tg (g s H C cl fp)) (ht : ∀ (s : Shared) (H : Hp) (C : Addr) (cl : List (Str × Addr)) (fp : List Addr), PTs (X.blk s H scope (compEnvC scope cl C X.env) fp) ifs (tt s H C cl fp))
    (ha : ∀ (s : Shared) (H : Hp) (C : Addr) (cl : List (Str × Addr)) (fp : List Addr), PAct (X.blk s H scope (compEnvC scope cl C X.env) fp) yes vs' (tk s H C cl fp)) (hs : ∀ x, foldedSetIterable iter X.env x = pure x)
    (h : tDcN X.kw wi g tt tk (own.map (·.2)) σ H Q)
    (hRR : ∀ D C s' m H', Inv X pins σ H' s' → Q (.ref D) H' → s'.heap.Ns C m → FpOk X pins H' C → compPost (model X.prog X.w) X.A X.xe use Qf (.ref D) C (.ok .next) s') :
    wpAny (model X.prog X.w) X.A (comprehension (.DictComp kx vx (⟨tg, iter, ifs, 0⟩ :: gs) scope pos) scope X.env pos' (newDict) false (eval iter X.env) use) Qf X.xe s := by
  have hfree : ∀ y ∈ scope.names, y.2 = .free → ∃ c, X.env.cells.lookup y.1 = some c := fun y hy e => (ok.free y hy e).elim (fun k => I.ok.has _ (.inl k)) fun k => I.ok.has _ (.inr k)
  refine wpAny_comprehension_free (use := use) rfl hs (closure_ok hfree) ok.kind (fun y hy e => by rw [ok.uniq y hy, e]) (thn (hi pins s σ H _ I h) fun xv s1 hx => thn hx fun itv s2 h2 => ?_)
  obtain ⟨it, fp, tn, J, H2, e, I2, T, st2, f2, q⟩ := h2
  subst e
  refine wpAny_newObj_type (newEnv_comp ?_)
  generalize hD : s2.heap.objs.size = D
  have hDn := I2.hok.fresh (Nat.le_of_eq hD)
  generalize hs3 : ({ s2 with heap := s2.heap.push { cls := .type "dict", data := .dict #[] } } : Shared) = s3
  have I3 : Inv X pins σ (upd H2 D (DNO X.prog X.w D [])) s3 := by
    rw [← hs3]
    rw [← hD]
    exact I2.laid (t' := s2.toks) (o := DNO X.prog X.w s2.heap.objs.size []) (fun b o e => Heap.get?_push_of_some _ e) (Nat.le_refl _) (dno_ok (beq_eq_false_iff_ne.mpr (Ne.symm (Nat.ne_of_lt I2.big))) .nil (Heap.DictOfH.new s2.heap))
  have h3 : s3.heap = s2.heap.push { cls := .type "dict", data := .dict #[] } := by rw [← hs3]
  have f3 : ∀ b ∈ fp, FpOk X pins (upd H2 D (DNO X.prog X.w D [])) b ∧ b < s3.heap.objs.size := fun b hb => by
    obtain ⟨o, e, _⟩ := T.obj _ _ st2 b hb
    have hlt := Heap.lt_size e
    refine ⟨⟨?_, (f2 b hb).2⟩, by rw [h3, Heap.size_push]; exact Nat.lt_succ_of_lt hlt⟩
    rw [upd_ne (by rw [← hD]; exact Nat.ne_of_lt hlt)]
    exact (f2 b hb).1
  have st3 : tn 0 s3.heap := T.keep _ _ _ st2 fun b _ o e => by rw [h3]; exact Heap.get?_push_of_some _ e
  have I4 := block_start I3 ok hN f3
  obtain ⟨W, ⟨m0, w0⟩, turn⟩ := q D hDn s3 (upd H2 D (DNO X.prog X.w D [])) s3.heap.objs.size (cellsFrom (s3.heap.objs.size + 1) scope.names (cloFrom X.env.cells scope.names [])) fp
  have pg := hg s3 (upd H2 D (DNO X.prog X.w D [])) s3.heap.objs.size (cellsFrom (s3.heap.objs.size + 1) scope.names (cloFrom X.env.cells scope.names [])) fp
  have pt := ht s3 (upd H2 D (DNO X.prog X.w D [])) s3.heap.objs.size (cellsFrom (s3.heap.objs.size + 1) scope.names (cloFrom X.env.cells scope.names [])) fp
  have pa := ha s3 (upd H2 D (DNO X.prog X.w D [])) s3.heap.objs.size (cellsFrom (s3.heap.objs.size + 1) scope.names (cloFrom X.env.cells scope.names [])) fp
  generalize g s3 (upd H2 D (DNO X.prog X.w D [])) s3.heap.objs.size (cellsFrom (s3.heap.objs.size + 1) scope.names (cloFrom X.env.cells scope.names [])) fp = g0 at turn pg
  generalize tt s3 (upd H2 D (DNO X.prog X.w D [])) s3.heap.objs.size (cellsFrom (s3.heap.objs.size + 1) scope.names (cloFrom X.env.cells scope.names [])) fp = tt0 at turn pt
  generalize tk s3 (upd H2 D (DNO X.prog X.w D [])) s3.heap.objs.size (cellsFrom (s3.heap.objs.size + 1) scope.names (cloFrom X.env.cells scope.names [])) fp = tk0 at turn pa
  show codeAny _ _ (.compStart (.DictComp kx vx (⟨tg, iter, ifs, 0⟩ :: gs) scope pos) 0 (.ref it) (.ref D) (compEnvC scope (cellsFrom (s3.heap.objs.size + 1) scope.names (cloFrom X.env.cells scope.names [])) s3.heap.objs.size X.env)) (compPost (model X.prog X.w) X.A X.xe use Qf (.ref D) s3.heap.objs.size) { s3 with heap := pushCells (s3.heap.push { cls := .type "dict", data := .dict #[] }) scope.names }
  generalize hce : compEnvC scope (cellsFrom (s3.heap.objs.size + 1) scope.names (cloFrom X.env.cells scope.names [])) s3.heap.objs.size X.env = ce at I4 pg pt pa ⊢
  have cL : ce.locals = s3.heap.objs.size := by subst hce; rfl
  generalize hH3 : upd H2 D (DNO X.prog X.w D []) = H3 at I3 I4 pg pt pa w0 f3
  generalize hs4 : ({ s3 with heap := pushCells (s3.heap.push { cls := .type "dict", data := .dict #[] }) scope.names } : Shared) = s4 at I4 ⊢
  have st4 : tn 0 s4.heap := T.keep _ _ _ st3 fun b _ o e => by rw [← hs4]; exact pushCells_keeps _ _ _ _ (Heap.get?_push_of_some _ e)
  have f4 : ∀ b ∈ fp, FpOk (X.blk s3 H3 scope ce fp) [] H3 b := fun b hb => ⟨(f3 b hb).1.1, (I4.ok.exf b hb).1, I4.ok.exfs b hb, .inl hb, fun x c e => (I4.ok.exf b hb).2 x c e, fun p hp => absurd (show p ∈ ([] : List (Addr × Obj)) ++ [] from hp) (by simp)⟩
  have loop : codeAny (model X.prog X.w) X.A (.compLoop (.DictComp kx vx (⟨tg, iter, ifs, 0⟩ :: gs) scope pos) 0 (.ref it) (.ref D) ce) (compPost (model X.prog X.w) X.A X.xe use Qf (.ref D) s3.heap.objs.size) s4 := by
    refine cl_loopD (ok := okc) (Y := X.blk s3 H3 scope ce fp) (hc I3 ce fp) rfl hT pg pt pa hv I4 T st4 f4 w0 turn fun s6 H5 I6 qq => ?_
    have I7 : Inv X pins σ H5 s6 := I3.call' (ch := fp) I6.os I6.base I6.hok I6.bare fun b hb => ⟨(f3 b hb).1.2.2.2.1, (f3 b hb).1.2.1, (f3 b hb).1.2.2.2.2.1, (f3 b hb).1.2.2.2.2.2⟩
    have nC : H5 s3.heap.objs.size = none := by
      have z : H5 ce.locals = none := I6.free
      rw [cL] at z
      exact z
    obtain ⟨m, hn, _⟩ := I6.loc
    have hn : s6.heap.Ns ce.locals m := hn
    rw [cL] at hn
    exact hRR D s3.heap.objs.size s6 m H5 I7 qq hn (I3.fpOk (Nat.le_refl _) nC)
  exact codeAny_compStart_dict loop (T.self X.A 0 _ _ _ st4 loop)
theorem pe_dcN {okc : Cx → Prop} (hc : ∀ {pins : List (Addr × Obj)} {σ : L2.St} {H : Hp} {s : Shared}, Inv X pins σ H s → ∀ ce fp, okc (X.blk s H scope ce fp)) (hN : X.N.Nodup) (hi : PIG okc X tg iter wi) (ok : BlkOk X.N X.env.scope scope own) (hT : TurnsR (.DictComp kx vx (⟨tg, iter, ifs, 0⟩ :: gs) scope pos) 0 tg iter ifs yes) (hv : ∀ j ∈ vs', j ∈ own.map (·.2))
    (hg : ∀ (s : Shared) (H : Hp) (C : Addr) (cl : List (Str × Addr)) (fp : List Addr), PG (X.blk s H scope (compEnvC scope cl C X.env) fp) tg (g s H C cl fp)) (ht : ∀ (s : Shared) (H : Hp) (C : Addr) (cl : List (Str × Addr)) (fp : List Addr), PTs (X.blk s H scope (compEnvC scope cl C X.env) fp) ifs (tt s H C cl fp))
    (ha : ∀ (s : Shared) (H : Hp) (C : Addr) (cl : List (Str × Addr)) (fp : List Addr), PAct (X.blk s H scope (compEnvC scope cl C X.env) fp) yes vs' (tk s H C cl fp)) (hs : ∀ x, foldedSetIterable iter X.env x = pure x) : PE X (.DictComp kx vx (⟨tg, iter, ifs, 0⟩ :: gs) scope pos) (tDcN X.kw wi g tt tk (own.map (·.2))) := by
  refine ⟨fun pins s σ H Q I h => ?_⟩
  rw [arm_eval_DictComp]
  refine dcN_core hc hN I hi ok hT hv hg ht ha hs h fun D C s' m H' I' q hn f => ⟨m, hn, fun h'' sb => ?_⟩
  obtain ⟨f0, f1, f2, f3, f4, f5⟩ := f
  exact ⟨.ref D, H', I'.turned (t' := s'.toks) (fun b o hb e => (sb.2 b hb).trans e) f0 f1 f3 f4 f5, rfl, q⟩
end
/-- the last: a key put -/
def kPut (K : KW) (tk tv : TE) : TK := fun D σ H Nx => tk σ H fun x H1 => tv σ H1 fun v H2 => ∃ (a : Addr) (L : DL) (k : NestedKey), x = .ref a ∧ DLAt K H2 D L ∧ KeyAt K H2 a k ∧ L.length ≤ 1000000 ∧ Nx (upd H2 D (DNO K.P K.w D (storeL L k a v)))
theorem act_put {Y : Cx} {kx vx : Expr} {tk tv : TE} (hu : Y.A.units + 20 < cLine) (hx : Y.xe = fun _ _ => False) (hk : PE Y kx tk) (hv : PE Y vx tv) : PAct Y (putD kx vx) [] (kPut Y.kw tk tv) := by
  refine ⟨fun pins s σ H D Nx rest Post E I h hr => ?_⟩
  unfold putD
  refine wpAny_bind (wpAny_bind (thnX hx (hk.run pins s σ H _ I h) fun uk s1 ⟨x, H1, I1, r1, h1⟩ => ?_))
  refine wpAny_bind (wpAny_holding (thnX hx (hv.run pins s1 σ H1 _ I1 h1) fun uv s2 ⟨v, H2, I2, r2, a, L, k, ex, hd, ka, hz, nx⟩ => ?_))
  subst ex
  obtain rfl : uk = Value.ref a := r1
  obtain ⟨hs, xs, hp, hm⟩ := dl_of I2 hd
  have hlen : ∀ {L : DL} {xs : List (NestedKey × Addr × Value)}, PrD L xs → L.length = xs.length := fun h => Paired.length h
  refine wpAny_bind (wpAny_standAt (wpAny_holding ?_))
  refine wpAny_dictSet_heap (knd := nestedKind Y.prog Y.w) (hsz := by rw [← hlen hp, sizeLine_eq]; omega) (by show Y.A.units + 8 < cLine; omega) (key_is I2 ka) hm fun h' hm' sb => ?_
  exact hr _ _ (d_write (t' := s2.toks + (nestedKind Y.prog Y.w).draws k) I2 (by rw [hd.1]; exact True.intro) sb (let ⟨o, _, _, ho, _⟩ := hm'; ⟨o, ho⟩) (dno_ok (L := storeL L k a v) hs (store_rel hp r2) hm')) nx
/-! ### over data -/
abbrev WKD := DE → List (PyData × PyData) → (List (PyData × PyData) → DE → Prop) → Prop
def wkPut (wk wv : WE) : WKD := fun ρ acc P => wk ρ fun d ρ1 => wv ρ1 fun y ρ2 => ∃ kk, nkT d = some kk ∧ acc.length ≤ 1000000 ∧ P (storeK acc kk d y) ρ2
def clRecD (wg : WG) (wt : WT) (wk : WKD) (vs : List Nat) : List PyData → List (PyData × PyData) → DE → (List (PyData × PyData) → DE → Prop) → Prop
  | [], acc, ρ, P => P acc ρ
  | x :: xs, acc, ρ, P => wg x ρ fun ρ1 => wt ρ1 fun b ρ2 => if b = true then wk ρ2 acc fun acc' ρ3 => clRecD wg wt wk vs xs acc' (wipeD ρ3 vs) P else clRecD wg wt wk vs xs acc (wipeD ρ2 vs) P
def wDcN (wi : WI) (wg : WG) (wt : WT) (wk : WKD) (vs : List Nat) : WN := fun ρ P => wi ρ fun xs ρ1 => clRecD wg wt wk vs xs [] (wipeD ρ1 vs) fun acc ρ2 => P (.n acc) ρ2
def ImpKD (Z : XC) (K : KW) (vs : List Nat) (t : TK) (wk : WKD) : Prop := ∀ (F : Frm) (G : List (V × T)) (M : MS) (σ : L2.St) (H : Hp) (ρ : DE) (D : Addr) (acc : List (PyData × PyData)), CxW Z K F G → RepS K F ((.ref D, .n acc) :: G) M H σ ρ → ∀ P, wk ρ acc P → ∀ Nx : Hp → Prop,
  (∀ acc' ρ' M' H', RepS K F ((.ref D, .n acc') :: G) M' H' (L2.wipe σ vs) ρ' → (∀ (j : Nat) (y : Sl), ρ'[j]? = some (some y) → j ∉ vs) → P acc' ρ' → Nx H') → t D σ H Nx
section
variable {Z : XC} {K : KW} {X : Cx} {tg kx vx iter : Expr} {ifs : List Expr} {tkE tvE : TE} {wkE wvE : WE} {pos : Pos} {tt : TT} {wt : WT} {wi : TI} {wj : WI} {g : TG} {wg : WG} {tk : TK} {wk : WKD} {vs vs' : List Nat}
theorem imp_kput (hk : ImpE Z K tkE wkE) (hv : ImpE Z K tvE wvE) : ImpKD Z K [] (kPut K tkE tvE) (wkPut wkE wvE) := by
  intro F G M σ H ρ D acc cx R P hw Nx k
  refine hk F _ M σ H ρ ⟨R, cx.up _⟩ _ hw _ fun d ρ1 v M1 H1 R1 r1 hw1 => ?_
  refine hv F _ M1 σ H1 ρ1 (R1.push r1) _ hw1 _ fun y ρ2 u M2 H2 R2 r2 ⟨kk, ek, hl, q⟩ => ?_
  obtain ⟨R4, r4⟩ := R2.r.popD
  obtain ⟨a, rfl, ka⟩ := key_of r4 ek
  obtain ⟨fp, rt, _⟩ := R4.top
  cases rt with
  | n hM nd =>
    obtain ⟨L, dl, k1, k2, k3, k4⟩ := nd.at
    have hll : L.length = acc.length := by
      have := congrArg List.length k1
      rw [List.length_map, List.length_map] at this
      exact this.symm
    refine ⟨a, L, kk, rfl, dl, ka, by omega, ?_⟩
    have R5 := R4.wrT1 (o := DNO K.P K.w D (storeL L kk a u)) (t' := .n (storeK acc kk d y)) rt_n1 trivial fun g => .n hM (store_nd k1 k2 k3 k4 r4 ek r2 R4.ml g upd_same)
    exact k _ ρ2 M2 _ R5 (fun _ _ _ z => by cases z) q
/-- the loop of a clause -/
theorem cl_turnsD {F : Frm} {G : List (V × T)} {M : MS} {σ : L2.St} {H : Hp} {ρ : DE} {D : Addr} {acc : List (PyData × PyData)} {J : It} {gi : V × T} {xs : List PyData} {P : List (PyData × PyData) → DE → Prop} {Nx : Hp → Prop} (hg : ImpGv K vs g wg) (ht : ImpT Z K tt wt) (hk : ImpKD Z K vs' tk wk) (hv : ∀ j ∈ vs', j ∈ vs)
    (ok : ItOk K J gi xs) (cx : CxW Z K F G) (R : RepS K F ((.ref D, .n acc) :: gi :: G) M H σ ρ) (q : clRecD wg wt wk vs xs acc (wipeD ρ vs) P)
    (k : ∀ acc' ρ' M' H', RepS K F ((.ref D, .n acc') :: G) M' H' (L2.wipe σ vs) ρ' → (∀ (j : Nat) (y : Sl), ρ'[j]? = some (some y) → j ∉ vs) → P acc' ρ' → Nx H') :
    ∃ W : Nat → Nat → Hp → Prop, (∃ m, W 0 m H) ∧ turns J g tt tk vs σ D W Nx := by
  refine ⟨fun i m H' => i ≤ xs.length ∧ m = xs.length - i ∧ ∃ ρ' acc' M', RepS K F ((.ref D, .n acc') :: gi :: G) M' H' (L2.wipe σ vs) ρ' ∧ (∀ (j : Nat) (y : Sl), ρ'[j]? = some (some y) → j ∉ vs) ∧ clRecD wg wt wk vs (xs.drop i) acc' ρ' P,
    ⟨xs.length, Nat.zero_le _, rfl, wipeD ρ vs, acc, M, (R.wipe vs).swap (wipe_length σ vs) fun i y e => wipe_out (wipeD_some e).2, fun j y e => (wipeD_some e).2, q⟩, ?_⟩
  rintro i m H' ⟨hi1, rfl, ρ', acc', M', R', hv', q'⟩
  obtain ⟨fp, rt, _⟩ := R'.exch.top
  by_cases hlt : i < xs.length
  · right
    have hx : xs[i]? = some xs[i] := List.getElem?_eq_getElem hlt
    obtain ⟨go, yl⟩ := ok.go M' H' fp R'.ml rt i _ hx
    rw [List.drop_eq_getElem_cons hlt] at q'
    refine ⟨go, fun H2 => ∃ ρ2 acc2 M2, RepS K F ((.ref D, .n acc2) :: gi :: G) M2 H2 (L2.wipe σ vs) ρ2 ∧ (∀ (j : Nat) (y : Sl), ρ2[j]? = some (some y) → j ∉ vs) ∧ clRecD wg wt wk vs (xs.drop (i + 1)) acc2 ρ2 P,
      fun H2 z => ⟨xs.length - (i + 1), by omega, hlt, rfl, z⟩, fun v H'' y => ?_⟩
    obtain ⟨s2, r2⟩ := yl v H'' y
    refine hg F _ M' _ H'' ρ' (R'.same s2) _ v r2 _ q' _ fun ρ3 σ3 H3 R3 s3 w3 q3 => ⟨by rw [w3, wipe_wipe], ?_⟩
    have w3' : L2.wipe σ3 vs = L2.wipe σ vs := by rw [w3, wipe_wipe]
    have back : ∀ {σ4 : L2.St} {M4 : MS} {H4 : Hp} {ρ4 : DE} {G4 : List (V × T)}, L2.wipe σ4 vs = L2.wipe σ vs → RepS K F G4 M4 H4 σ4 ρ4 → RepS K F G4 M4 H4 (L2.wipe σ vs) (wipeD ρ4 vs) := fun {σ4 M4 H4 ρ4 G4} w4 r4 => (r4.wipe vs).swap (by rw [← w4, wipe_length]) fun j y e => by rw [← w4]; exact wipe_out (wipeD_some e).2
    refine ht F _ M' σ3 H3 ρ3 ⟨R3, (cx.up gi).up _⟩ _ q3 _ fun bb ρ4 M4 H4 R4 q4 => ?_
    cases bb with
    | true =>
      rw [if_pos rfl] at q4 ⊢
      refine hk F _ M4 σ3 H4 ρ4 D acc' (cx.up gi) R4.r _ q4 _ fun acc5 ρ5 M5 H5 R5 hv5 q5 => ?_
      refine ⟨_, acc5, M5, back ?_ R5, fun j y e => (wipeD_some e).2, q5⟩
      rw [wipe_sub hv]
      exact w3'
    | false =>
      rw [if_neg Bool.false_ne_true] at q4 ⊢
      exact ⟨_, acc', M4, back w3' R4.r, fun j y e => (wipeD_some e).2, q4⟩
  · left
    have e : i = xs.length := by omega
    subst e
    rw [List.drop_length] at q'
    exact ⟨ok.stop M' H' fp R'.ml rt, k acc' ρ' M' H' R'.exch.pop hv' q'⟩
theorem imp_dcN {g : BF TG} {tt : BF TT} {tk : BF TK} (hi : ImpI Z K wi wj) (hg : ∀ s H C cl fp, ImpGv K vs (g s H C cl fp) wg) (ht : ∀ s H C cl fp, ImpT Z K (tt s H C cl fp) wt) (hk : ∀ s H C cl fp, ImpKD Z K vs' (tk s H C cl fp) wk) (hv : ∀ j ∈ vs', j ∈ vs) : ImpN Z K (tDcN K wi g tt tk vs) (wDcN wj wg wt wk vs) := by
  intro F G M σ H ρ R P hw Q k
  refine hi F G M σ H ρ R _ hw _ fun xs ρ1 J gi M1 H1 R1 ok q => ?_
  intro D hD bs bH bC bl bf
  have R2 := R1.r.new hD (o := DNO K.P K.w D []) (t := .n []) trivial (.n (.inr rfl) ⟨[], upd_same, .nil, rfl, fun q hq => (by cases hq), .nil⟩)
  refine cl_turnsD (hg bs bH bC bl bf) (ht bs bH bC bl bf) (hk bs bH bC bl bf) hv ok R.cx R2 q fun acc' ρ' M' H' R' hv' q' => ?_
  exact k _ ρ' _ M' H' (R.up (R'.swap (wipe_length σ vs).symm fun j y e => (wipe_out (hv' j y e)).symm)) q'
/-- the clauses behind, over data -/
structure PKtD (Z : XC) (Y : Cx) (yes : Env → Value → Sem Fin → Sem Fin) (vs : List Nat) (t : TK) (wk : WKD) : Prop where
  p : PAct Y yes vs t
  i : ImpKD Z Y.kw vs t wk
theorem kt_put {Y : Cx} (hu : Y.A.units + 20 < cLine) (hk : PEd Z Y kx tkE wkE) (hv : PEd Z Y vx tvE wvE) (hx : Y.xe = fun _ _ => False := by rfl) : PKtD Z Y (putD kx vx) [] (kPut Y.kw tkE tvE) (wkPut wkE wvE) := ⟨act_put hu hx hk.p hv.p, imp_kput hk.i hv.i⟩
theorem d_dcN {g : BF TG} {tt : BF TT} {tk : BF TK} {gs : List Comprehension} {scope : Scope} {own : List (Str × Nat)} {yes : Env → Value → Sem Fin → Sem Fin} (hN : X.N.Nodup) (hi : PId Z X tg iter wi wj) (ok : BlkOk X.N X.env.scope scope own) (hT : TurnsR (.DictComp kx vx (⟨tg, iter, ifs, 0⟩ :: gs) scope pos) 0 tg iter ifs yes)
    (hg : ∀ (s : Shared) (H : Hp) (C : Addr) (cl : List (Str × Addr)) (fp : List Addr), PG (X.blk s H scope (compEnvC scope cl C X.env) fp) tg (g s H C cl fp)) (hgv : ∀ s H C cl fp, ImpGv X.kw (own.map (·.2)) (g s H C cl fp) wg)
    (ht : ∀ (s : Shared) (H : Hp) (C : Addr) (cl : List (Str × Addr)) (fp : List Addr), PTs (X.blk s H scope (compEnvC scope cl C X.env) fp) ifs (tt s H C cl fp)) (hti : ∀ s H C cl fp, ImpT Z X.kw (tt s H C cl fp) wt)
    (ha : ∀ (s : Shared) (H : Hp) (C : Addr) (cl : List (Str × Addr)) (fp : List Addr), PKtD Z (X.blk s H scope (compEnvC scope cl C X.env) fp) yes vs' (tk s H C cl fp) wk) (hv : ∀ j ∈ vs', j ∈ own.map (·.2) := by decide) (hc : X.calm = true := by rfl) (hs : ∀ x, foldedSetIterable iter X.env x = pure x := by intro _; rfl) :
    PNd Z X (.DictComp kx vx (⟨tg, iter, ifs, 0⟩ :: gs) scope pos) (tDcN X.kw wi g tt tk (own.map (·.2))) (wDcN wj wg wt wk (own.map (·.2))) :=
  ⟨pe_dcN (okc := calmC) (fun _ _ _ => hc) hN (pi_g hi.p) ok hT hv hg ht (fun s H C cl fp => (ha s H C cl fp).p) hs, imp_dcN hi.i hgv hti (fun s H C cl fp => (ha s H C cl fp).i) hv⟩
end
end Dat
set_option Elab.async false
set_option linter.all false
set_option maxRecDepth 100000
set_option maxHeartbeats 4000000
/-! len of a dict whose keys are tuples; in as a value; sorted of data; is True, is not True. -/
namespace Dat
open PySem PySem.Spec PyProof.Rows L2 RZ
section
variable {Z : XC} {X : Cx} {e : Expr} {te : TE} {we : WE} {pos : Pos}
theorem d_inN (k : Nat) {y : Str} {py : Pos} (hu : X.A.units + 20 < cLine) (h : PEd Z X e te we) (hN : X.N[k]? = some y := by rfl) (hv : Vis X.env.scope y := by first | exact Or.inl rfl | exact Or.inr (Or.inl rfl) | exact Or.inr (Or.inr rfl)) (hd : (y == ("__debug__" : Str)) = false := by decide) (hcd : (y == ("__classdict__" : Str)) = false := by decide) (hm : behindInMarks .In (.Name y py) = false := by rfl) :
    PEd Z X (.Compare e [.In] [.Name y py] pos) (tOp (rInN X.kw false) te (tVar k)) (wInN false k we) := ⟨pe_cmpR (op_inN hu) h.p (pe_var hN hv hd hcd) hm, imp_inN false k h.i⟩
/-! len(d) -/
def rLenN (K : KW) : List V → Hp → VK → Prop := fun xs H Q => ∃ (p : Addr) (L : DL), xs = [.ref p] ∧ DLAt K H p L ∧ L.length ≤ 1000000 ∧ Q (.int ((L.length : Nat) : Int)) H
theorem call_lenN : CallR X (.builtin "len") (rLenN X.kw) := by
  intro pins s σ H xs us Q I r h
  obtain ⟨p, L, rfl, hd, hz, q⟩ := h
  obtain ⟨u, rfl, rx⟩ := vals1 r
  obtain rfl : u = .ref p := rx
  obtain ⟨hs, ys, hp, hm⟩ := dl_of I hd
  have hl : L.length = ys.length := Paired.length hp
  refine call_len_dictH (knd := nestedKind X.prog X.w) hs hm (by omega) ?_
  rw [← hl]
  exact ⟨.int _, H, I.tok _, ⟨_, rfl⟩, q⟩
def wLenN (k : Nat) : WE := fun ρ P => ∃ b kvs, ρ[k]? = some (some (.o b (.n kvs))) ∧ kvs.length ≤ 1000000 ∧ P (.int ((kvs.length : Nat) : Int)) ρ
theorem d_lenN (k : Nat) {x : Str} {p py : Pos} (hg : Gl X "len") (hm : X.mg "len" = none) (hN : X.N[k]? = some x := by rfl) (hv : Vis X.env.scope x := by first | exact Or.inl rfl | exact Or.inr (Or.inl rfl) | exact Or.inr (Or.inr rfl)) (hd : (x == ("__debug__" : Str)) = false := by decide) (hcd : (x == ("__classdict__" : Str)) = false := by decide)
    (he : starEach [.Name x py] X.env = (false, eval (.Name x py) X.env) :: starEach [] X.env := by rfl) (hpl : (backTo pos (starEach [] X.env)).any (·.1) = false := by rfl) :
    PEd Z X (.Call (.Name "len" p) [.Name x py] [] pos) (tCB (rLenN X.kw) (tCons (tVar k) tNil)) (wLenN k) := by
  refine ⟨pe_callB call_lenN hg hm (by decide +kernel) (pa_cons (pe_var hN hv hd hcd) pa_nil) (by decide) (by decide) he hpl, fun F G M σ H ρ R P hw Q kk => ?_⟩
  obtain ⟨b0, kvs, e0, hz, q⟩ := hw
  obtain ⟨p0, h1, nd⟩ := R.r.nd e0
  obtain ⟨L, dl, k1, k2, k3, _⟩ := nd.at
  have hll : L.length = kvs.length := by
    have := congrArg List.length k1
    rw [List.length_map, List.length_map] at this
    exact this.symm
  refine ⟨.ref p0, h1, p0, L, rfl, dl, by omega, ?_⟩
  rw [hll]
  exact kk _ ρ _ M H R (.int _) q
end
section
variable {Z : XC} {X : Cx} {tg elt iter e : Expr} {es : List Expr} {ifs : List Expr} {te : TE} {we : WE} {pos : Pos} {tt : TT} {wt : WT} {wi : TI} {wj : WI} {g : TG} {wg : WG} {gr : TGs} {wgr : WGs} {tk : TK} {wk : WKD} {vs vs' : List Nat}
theorem d_compD {g : BF TG} {tt : BF TT} {tk : BF TK} {gs : List Comprehension} {scope : Scope} {yes : Env → Value → Sem Fin → Sem Fin} {kx vx : Expr} (own : List (Str × Nat)) (hN : X.N.Nodup) (ok : BlkOk X.N X.env.scope scope own) (hT : TurnsR (.DictComp kx vx (⟨tg, iter, ifs, 0⟩ :: gs) scope pos) 0 tg iter ifs yes) (hi : PId Z X tg iter wi wj)
    (hg : ∀ (s : Shared) (H : Hp) (C : Addr) (cl : List (Str × Addr)) (fp : List Addr), PGvd (X.blk s H scope (compEnvC scope cl C X.env) fp) (own.map (·.2)) tg (g s H C cl fp) wg)
    (ht : ∀ (s : Shared) (H : Hp) (C : Addr) (cl : List (Str × Addr)) (fp : List Addr), PTsd Z (X.blk s H scope (compEnvC scope cl C X.env) fp) ifs (tt s H C cl fp) wt)
    (ha : ∀ (s : Shared) (H : Hp) (C : Addr) (cl : List (Str × Addr)) (fp : List Addr), PKtD Z (X.blk s H scope (compEnvC scope cl C X.env) fp) yes vs' (tk s H C cl fp) wk) (hv : ∀ j ∈ vs', j ∈ own.map (·.2) := by decide) (hc : X.calm = true := by rfl) (hs : ∀ x, foldedSetIterable iter X.env x = pure x := by intro _; rfl) :
    PNd Z X (.DictComp kx vx (⟨tg, iter, ifs, 0⟩ :: gs) scope pos) (tDcN X.kw wi g tt tk (own.map (·.2))) (wDcN wj wg wt wk (own.map (·.2))) :=
  d_dcN hN hi ok hT (fun s H C cl fp => (hg s H C cl fp).p) (fun s H C cl fp => (hg s H C cl fp).i) (fun s H C cl fp => (ht s H C cl fp).p) (fun s H C cl fp => (ht s H C cl fp).i) ha hv hc hs
end
/-! ### sorted of data -/
def tup1 : PyData → Bool
  | .tuple (_ :: _) => true
  | _ => false
theorem tup1_some {d : PyData} (h : tup1 d = true) : ∃ x r, d = .tuple (x :: r) := by
  unfold tup1 at h
  split at h
  · exact ⟨_, _, rfl⟩
  · cases h
abbrev dle : PyData → PyData → Bool := PySem.W.dataLe false fun d => d
def canSort (ds : List PyData) : Bool := ds.all (fun d => ds.all fun d' => PySem.W.alike d d') && (ds.all tup1 && (ds.all (fun d => decide (d.depth ≤ 50)) && (!PyData.hasDictAll ds && decide (ds.length ≤ 1000000))))
def fSorted : PyData → Option PyData
  | .list ds => if canSort ds = true then some (.list (ds.mergeSort dle)) else none
  | _ => none
abbrev zle : V × PyData → V × PyData → Bool := PySem.W.dataLe false Prod.snd
def rSortD (K : KW) : List V → Hp → VK → Prop := fun xs H Q => ∃ (a : Addr) (ys : List V) (ds : List PyData), xs = [.ref a] ∧ SqL K H a ys ∧ DpAll K H ys ds ∧ canSort ds = true ∧ ∀ p, H p = none → Q (.ref p) (upd H p (.lst (((ys.zip ds).mergeSort zle).map (·.1))))
theorem dpAll_len {K : KW} {H : Hp} : ∀ {ys : List V} {ds : List PyData}, DpAll K H ys ds → ys.length = ds.length
  | _, _, .nil => rfl
  | _, _, .cons _ t => by rw [List.length_cons, List.length_cons, dpAll_len t]
theorem each_rel {h : Heap} : ∀ {ys : List V} {us : List Value} {ds : List PyData} {as : List Addr}, Vals ys us → ReadsAll h us ds as → PySem.W.EachIs (fun (u : Value) (b : V × PyData) => RelV b.1 u) us (ys.zip ds) ∧ PySem.W.EachIs (fun (u : Value) (b : V × PyData) => ∃ as, Reads h u b.2 as) us (ys.zip ds)
  | _, _, _, _, .nil, .nil => ⟨.nil, .nil⟩
  | _, _, _, _, .cons r t, .cons q1 q2 => by
    obtain ⟨h1, h2⟩ := each_rel t q2
    exact ⟨.cons r h1, .cons ⟨_, q1⟩ h2⟩
theorem each_vals : ∀ {us : List Value} {l : List (V × PyData)}, PySem.W.EachIs (fun (u : Value) (b : V × PyData) => RelV b.1 u) us l → Vals (l.map (·.1)) us
  | _, _, .nil => .nil
  | _, _, .cons r t => .cons r (each_vals t)
theorem cr_sortedD {X : Cx} (hu : X.A.units + 64 < cLine) : CallR X (.builtin "sorted") (rSortD X.kw) := by
  intro pins s σ H xs us Q I r h
  obtain ⟨a, ys, ds, rfl, hs, hd, hc, q⟩ := h
  unfold canSort at hc
  simp only [Bool.and_eq_true, List.all_eq_true, decide_eq_true_eq] at hc
  obtain ⟨c1, c2, c3, c4, c5⟩ := hc
  obtain ⟨its, rv, hl, hz⟩ := I.list hs
  obtain ⟨u, rfl, ru⟩ := vals1 r
  obtain rfl : u = Value.ref a := ru
  obtain ⟨as, ra⟩ := Dp.readsAll I ds _ _ hd rv
  obtain ⟨e1, e2⟩ := each_rel rv ra
  have ln := dpAll_len hd
  have em : (ys.zip ds).map Prod.snd = ds := List.map_snd_zip (by omega)
  have lz : (ys.zip ds).length = ds.length := by rw [List.length_zip]; omega
  have sz := sizeLine_eq
  refine PySem.W.sorted_data (β := V × PyData) (enc := Prod.snd) (R := fun u b => RelV b.1 u) hl.isList e1 e2 ?_ ?_ ?_ ?_ fun out hlen eo => ?_
  · rw [em]
    exact fun d hd d' hd' => c1 d hd d' hd'
  · rw [em]
    exact .inl fun d hd => tup1_some (c2 d hd)
  · omega
  · intro b hb
    have hb2 : b.2 ∈ ds := by rw [← em]; exact List.mem_map.mpr ⟨b, hb, rfl⟩
    have := c3 _ hb2
    omega
  · obtain ⟨n, hn⟩ := sortedAll_at s.heap its out.toArray
    refine ⟨.ref (s.heap.objs.size + 1), upd H (s.heap.objs.size + 1) (.lst (((ys.zip ds).mergeSort zle).map (·.1))), I.laid (t' := s.toks) (fun b o e => sortedAll_old e) (Nat.le_succ _) ⟨?_, out, n, each_vals eo, hn⟩, rfl, q _ (I.hok.fresh (Nat.le_succ _))⟩
    rw [List.length_map, List.length_mergeSort]
    omega
theorem rp_pairs {K : KW} {M : MS} {H : Hp} : ∀ (l : List (V × PyData)), (∀ q ∈ l, Rp K M H q.1 q.2) → RpAll K M H (l.map (·.1)) (l.map (·.2))
  | [], _ => .nil
  | q :: l, h => .cons (h q List.mem_cons_self) (rp_pairs l fun x hx => h x (List.mem_cons_of_mem _ hx))
theorem rp_zip {K : KW} {M : MS} {H : Hp} : ∀ {ys : List V} {ds : List PyData}, RpAll K M H ys ds → ∀ q ∈ ys.zip ds, Rp K M H q.1 q.2
  | _, _, .nil, q, hq => by cases hq
  | _, _, .cons r t, q, hq => by
    rcases List.mem_cons.mp hq with rfl | hq
    · exact r
    · exact rp_zip t q hq
theorem l_sortD {K : KW} : LiftC K (rSortD K) (f1 fSorted) := by
  intro M H xs z vs ml e r Q k
  replace e := f1_some e
  obtain ⟨x, rfl, e⟩ := e
  cases r with
  | cons r t =>
    cases t
    cases r with
    | @lst a ys ds n1 e1 h1 =>
      simp only [fSorted] at e
      split at e
      · cases e
        rename_i hc
        have hd : PyData.hasDictAll ds = false := by
          unfold canSort at hc
          simp only [Bool.and_eq_true, Bool.not_eq_true'] at hc
          exact hc.2.2.2.1
        have ln := h1.length
        have em : (ys.zip ds).map Prod.snd = ds := List.map_snd_zip (by omega)
        refine ⟨a, ys, ds, rfl, SqL.of e1, RpAll.dp ds ys hd h1, hc, fun p hp => ?_⟩
        refine k _ _ (same_new hp) (rp_newL ml hp ?_)
        have q := rp_pairs ((ys.zip ds).mergeSort zle) fun q hq => rp_zip h1 q ((List.mergeSort_perm _ _).mem_iff.mp hq)
        have ed : ((ys.zip ds).mergeSort zle).map (·.2) = ds.mergeSort dle :=
          (List.map_mergeSort (r := zle) (s := dle) (f := Prod.snd) (l := ys.zip ds) (fun a _ b _ => rfl)).trans (by rw [em])
        rw [ed] at q
        exact q
      · cases e
    | _ => simp [fSorted] at e
/-! ### is True -/
def fIsB : PyData → PyData → Option PyData
  | .bool a, .bool b => some (.bool (decide (a = b)))
  | _, _ => none
def fNotB : PyData → PyData → Option PyData
  | .bool a, .bool b => some (.bool (!decide (a = b)))
  | _, _ => none
theorem l_isB {K : KW} : LiftR K rIsB fIsB := by
  intro M H x y z v u ml e rx ry Q k
  cases x <;> first | (simp [fIsB] at e; done) | skip
  cases y <;> first | (simp [fIsB] at e; done) | skip
  cases e
  cases rx
  cases ry
  exact ⟨_, _, rfl, rfl, k _ H (Same.refl H) (.bl _)⟩
theorem l_notB {K : KW} : LiftR K rNotB fNotB := by
  intro M H x y z v u ml e rx ry Q k
  cases x <;> first | (simp [fNotB] at e; done) | skip
  cases y <;> first | (simp [fNotB] at e; done) | skip
  cases e
  cases rx
  cases ry
  exact ⟨_, _, rfl, rfl, k _ H (Same.refl H) (.bl _)⟩
end Dat
set_option Elab.async false
set_option linter.all false
set_option maxRecDepth 100000
set_option maxHeartbeats 4000000
/-! Dicts of one's own whose keys are tuples and whose values are trees; tuples of trees made and taken apart; methods that give a new tree. -/
namespace Dat
open PySem PySem.Spec PyProof.Rows L2 RZ
def hasK (ks : List PyData) (k : NestedKey) : Bool := ks.any fun d => decide (nk d = some k)
def ixK (ks : List PyData) (k : NestedKey) : Option Nat := ks.findIdx? fun d => decide (nk d = some k)
section
variable {K : KW} {M : MS} {H : Hp}
theorem keysT_at : ∀ (L : DL) (ks : List PyData), ks.map nk = L.map (fun q => some q.1) → RpAll K M H (L.map fun q => V.ref q.2.1) ks → (∀ q ∈ L, q.1.depth ≤ 8) → ∀ q ∈ L, KeyAt K H q.2.1 q.1
  | [], _, _, _, _, q, hq => by cases hq
  | _ :: _, [], e, _, _, _, _ => by cases e
  | q :: L, d :: ks, e, r, hd, q', hq => by
    rw [List.map_cons, List.map_cons] at e
    rw [List.map_cons] at r
    cases r with
    | cons r1 r2 =>
      rcases List.mem_cons.mp hq with rfl | hq
      · exact ⟨M, d, r1, (List.cons.inj e).1, hd _ List.mem_cons_self⟩
      · exact keysT_at L ks (List.cons.inj e).2 r2 (fun z hz => hd z (List.mem_cons_of_mem _ hz)) q' hq
theorem NKeys.at {p : Addr} {ks : List PyData} {vs : List V} (h : NKeys K M H p ks vs) : ∃ L : DL, DLAt K H p L ∧ ks.map nk = L.map (fun q => some q.1) ∧ RpAll K M H (L.map fun q => V.ref q.2.1) ks ∧ (∀ q ∈ L, q.1.depth ≤ 8) ∧ L.map (·.2.2) = vs := by
  obtain ⟨L, h1, h2, h3, h4, h5⟩ := h
  exact ⟨L, ⟨h1, keysT_at L ks h3 h2 h4⟩, h3, h2, h4, h5⟩
theorem look_ix {k : NestedKey} : ∀ (L : DL) (ks : List PyData), ks.map nk = L.map (fun q => some q.1) → (lookL L k).isSome = hasK ks k ∧ ∀ i, ixK ks k = some i → ∃ v, lookL L k = some v ∧ (L.map (·.2.2))[i]? = some v
  | [], [], _ => ⟨rfl, fun i h => by cases h⟩
  | [], _ :: _, e => by cases e
  | _ :: _, [], e => by cases e
  | q :: L, d :: ks, e => by
    rw [List.map_cons, List.map_cons] at e
    have e1 : nk d = some q.1 := (List.cons.inj e).1
    obtain ⟨i1, i2⟩ := look_ix (k := k) L ks (List.cons.inj e).2
    unfold lookL hasK ixK at *
    rw [List.find?_cons, List.any_cons, List.findIdx?_cons, e1]
    by_cases h : q.1 = k
    · rw [decide_eq_true h, decide_eq_true (by rw [h])]
      refine ⟨rfl, fun i hi => ?_⟩
      rw [if_pos rfl] at hi
      cases hi
      exact ⟨q.2.2, rfl, rfl⟩
    · rw [decide_eq_false h, decide_eq_false (by simpa using h)]
      refine ⟨by rw [Bool.false_or]; exact i1, fun i hi => ?_⟩
      rw [if_neg (by decide)] at hi
      obtain ⟨j, hj, rfl⟩ := Option.map_eq_some_iff.mp hi
      obtain ⟨v, h1, h2⟩ := i2 j hj
      exact ⟨v, h1, h2⟩
theorem RTs.nth {vs : List V} {ts : List T} {fp : List Addr} : RTs K M H vs ts fp → ∀ (i : Nat) (v : V) (t : T), vs[i]? = some v → ts[i]? = some t → ∃ fq, RT K M H v t fq ∧ fq.Sublist fp
  | .nil, i, v, t, h, _ => by cases h
  | .cons (fp := fp) (fq := fq) r rs, 0, v, t, h1, h2 => by
    cases h1
    cases h2
    exact ⟨_, r, List.sublist_append_left _ _⟩
  | .cons (fp := fp) (fq := fq) r rs, i + 1, v, t, h1, h2 => by
    obtain ⟨f, q1, q2⟩ := RTs.nth rs i v t (by simpa using h1) (by simpa using h2)
    exact ⟨f, q1, q2.trans (List.sublist_append_right _ _)⟩
end
section
variable {K : KW} {F : Frm} {G : List (V × T)} {M : MS} {H : Hp} {σ : L2.St} {ρ : DE}
/-- a temporary is left for a part of it -/
theorem RepS.part {v : V} {t : T} (R : RepS K F ((v, t) :: G) M H σ ρ) : ∃ fp, RT K M H v t fp ∧ ∀ (v' : V) (t' : T) (fq : List Addr), RT K M H v' t' fq → fq.Sublist fp → RepS K F ((v', t') :: G) M H σ ρ := by
  obtain ⟨b, A, B, h1, h2, h3, h4⟩ := R
  cases h2 with
  | @cons _ _ _ _ fp fr r rs =>
    refine ⟨fp, r, fun v' t' fq q1 q2 => ⟨b, A, fq ++ fr, h1, .cons q1 rs, fun a ha => ?_, h4.sublist (List.Sublist.append (List.Sublist.refl A) (List.Sublist.append q2 (List.Sublist.refl fr)))⟩⟩
    rcases List.mem_append.mp ha with ha | ha
    · exact h3 a (List.mem_append_left _ (q2.subset ha))
    · exact h3 a (List.mem_append_right _ ha)
/-- a temporary goes into another one -/
theorem RepS.chg2 {u v : V} {tu t : T} (R : RepS K F ((u, tu) :: (v, t) :: G) M H σ ρ) : ∃ fp fq, RT K M H v t fp ∧ RT K M H u tu fq ∧ (fp ++ fq).Nodup ∧ ∀ (H' : Hp) (t' : T) (fp' : List Addr), (∀ a o, a ∉ fp → H a = some o → H' a = some o) → (∀ a ∈ fp, Mut (H' a)) →
    (Stp M H (fun a => M a ∨ a ∈ ([] : List Addr)) H' → RT K (fun a => M a ∨ a ∈ ([] : List Addr)) H' v t' fp') → fp'.Nodup → (∀ a ∈ fp', a ∈ fp ∨ a ∈ fq) → RepS K F ((v, t') :: G) (fun a => M a ∨ a ∈ ([] : List Addr)) H' σ ρ := by
  obtain ⟨b, A, B, h1, h2, h3, h4⟩ := R
  cases h2 with
  | @cons _ _ _ _ fq fr ru rs =>
    cases rs with
    | @cons _ _ _ _ fp f0 r rs0 =>
      have nd1 := List.nodup_append.mp h4
      have nd2 := List.nodup_append.mp nd1.2.1
      have nd3 := List.nodup_append.mp nd2.2.1
      refine ⟨fp, fq, r, ru, ?_, fun H' t' fp' kk hmut r' nd' sub' => ?_⟩
      · refine (List.Perm.nodup_iff List.perm_append_comm).mpr (nd1.2.1.sublist ?_)
        exact List.Sublist.append (List.Sublist.refl fq) (List.sublist_append_left fp f0)
      · obtain ⟨b', g⟩ := b.chg (C := fp) (N := []) (fun a ha => .inr (h3 a (List.mem_append_right _ (List.mem_append_left _ ha)))) r.mem (fun a ha => by cases ha) kk (fun a ha => by
          rcases ha with ha | ha
          · exact hmut a ha
          · cases ha)
        have keep : ∀ a, M a → a ∉ fp → (M a ∨ a ∈ ([] : List Addr)) ∧ H' a = H a := fun a ha hn => ⟨.inl ha, keepM b.ml kk ha hn⟩
        refine ⟨b', A, fp' ++ f0, h1.stp b.ml g fun a ha => keep a (h1.mem a ha) fun z => nd1.2.2 a ha a (List.mem_append_right _ (List.mem_append_left _ z)) rfl, .cons (r' g) (rs0.stp b.ml g fun a ha => keep a (rs0.mem a ha) fun z => nd3.2.2 a z a ha rfl), fun a ha => ?_, ?_⟩
        · rcases List.mem_append.mp ha with ha | ha
          · rcases sub' a ha with z | z
            · exact h3 a (List.mem_append_right _ (List.mem_append_left _ z))
            · exact h3 a (List.mem_append_left _ z)
          · exact h3 a (List.mem_append_right _ (List.mem_append_right _ ha))
        · refine List.nodup_append.mpr ⟨nd1.1, List.nodup_append.mpr ⟨nd', nd3.2.1, fun a ha c hc z => ?_⟩, fun a ha c hc z => ?_⟩
          · subst z
            rcases sub' a ha with z | z
            · exact nd3.2.2 a z a hc rfl
            · exact nd2.2.2 a z a (List.mem_append_right _ hc) rfl
          · subst z
            rcases List.mem_append.mp hc with hc | hc
            · rcases sub' a hc with z | z
              · exact nd1.2.2 a ha a (List.mem_append_right _ (List.mem_append_left _ z)) rfl
              · exact nd1.2.2 a ha a (List.mem_append_left _ z) rfl
            · exact nd1.2.2 a ha a (List.mem_append_right _ (List.mem_append_right _ hc)) rfl
/-- two temporaries become a tuple of them -/
theorem RepS.tup2 {v1 v2 : V} {t1 t2 : T} {p : Addr} (R : RepS K F ((v2, t2) :: (v1, t1) :: G) M H σ ρ) (hp : H p = none) : RepS K F ((.ref p, .t [t1, t2]) :: G) M (upd H p (.tup [v1, v2])) σ ρ := by
  obtain ⟨b, A, B, h1, h2, h3, h4⟩ := R.same (same_new (o := .tup [v1, v2]) hp)
  cases h2 with
  | @cons _ _ _ _ f2 fr r2 rs =>
    cases rs with
    | @cons _ _ _ _ f1 f0 r1 rs0 =>
      have pm : (f1 ++ (f2 ++ []) ++ f0).Perm (f2 ++ (f1 ++ f0)) := by
        rw [List.append_nil, ← List.append_assoc]
        exact List.Perm.append_right f0 List.perm_append_comm
      exact ⟨b, A, (f1 ++ (f2 ++ [])) ++ f0, h1, .cons (.t (SqT.of upd_same) (.cons r1 (.cons r2 .nil))) rs0, fun a ha => h3 a (pm.mem_iff.mp ha), (List.Perm.append_left A pm).nodup_iff.mpr h4⟩
/-- and are taken out of it -/
theorem RepS.untup {v : V} {t1 t2 : T} (R : RepS K F ((v, .t [t1, t2]) :: G) M H σ ρ) : ∃ a v1 v2, v = .ref a ∧ SqT K H a [v1, v2] ∧ RepS K F ((v1, t1) :: (v2, t2) :: G) M H σ ρ := by
  obtain ⟨b, A, B, h1, h2, h3, h4⟩ := R
  cases h2 with
  | @cons _ _ _ _ fp f0 r rs =>
    cases r with
    | t e q =>
      cases q with
      | @cons _ _ _ _ f1 fr q1 q2 =>
        cases q2 with
        | @cons _ _ _ _ f2 fs q2 q3 =>
          cases q3
          refine ⟨_, _, _, rfl, e, b, A, f1 ++ (f2 ++ f0), h1, .cons q1 (.cons q2 rs), fun a ha => h3 a ?_, ?_⟩
          · rw [List.append_nil, List.append_assoc]
            exact ha
          · rw [List.append_nil, List.append_assoc] at h4
            exact h4
end
section
variable {Z : XC} {X : Cx} {e b ke : Expr} {te tb tk : TE} {we wb wk : WE} {wn : WN} {pos : Pos}
/-! k in d -/
def wInT (neg : Bool) (k : Nat) (we : WE) : WE := fun ρ P => we ρ fun x ρ1 => ∃ m ks ts kk, ρ1[k]? = some (some (.o m (.nt ks ts))) ∧ nkT x = some kk ∧ P (.bool (if neg = true then !hasK ks kk else hasK ks kk)) ρ1
theorem RepS.ndT {K : KW} {F : Frm} {G : List (V × T)} {M : MS} {H : Hp} {σ : L2.St} {ρ : DE} (R : RepS K F G M H σ ρ) {k : Nat} {m : Md} {ks : List PyData} {ts : List T} (h : ρ[k]? = some (some (.o m (.nt ks ts)))) : ∃ p vs fp, σ[k]? = some (some (.ref p)) ∧ NKeys K M H p ks vs ∧ RTs K M H vs ts fp := by
  obtain ⟨v, fp, h1, h2, h3⟩ := R.own h
  cases h2 with
  | nt hm q r => exact ⟨_, _, _, h1, q, r⟩
theorem imp_inT (neg : Bool) (k : Nat) (h : ImpE Z X.kw te we) : ImpE Z X.kw (tOp (rInN X.kw neg) te (tVar k)) (wInT neg k we) := by
  intro F G M σ H ρ R P hw Q kk
  refine h F G M σ H ρ R _ hw _ fun x ρ1 v M1 H1 R1 r1 ⟨m, ks, ts, ky, e1, ek, q⟩ => ?_
  obtain ⟨p1, vs, fp, z1, nd, _⟩ := R1.r.ndT e1
  obtain ⟨L, dl, k1, k2, _, _⟩ := nd.at
  obtain ⟨a, rfl, ka⟩ := key_of r1 ek
  refine ⟨.ref p1, z1, p1, a, L, ky, rfl, rfl, dl, ka, ?_⟩
  rw [(look_ix (k := ky) L ks k1).1]
  exact kk _ ρ1 _ M1 H1 R1 (.bl _) q
theorem c_notInT (k : Nat) {y : Str} {py : Pos} (hu : X.A.units + 20 < cLine) (h : PEd Z X e te we) (hN : X.N[k]? = some y := by rfl) (hv : Vis X.env.scope y := by first | exact Or.inl rfl | exact Or.inr (Or.inl rfl) | exact Or.inr (Or.inr rfl)) (hd : (y == ("__debug__" : Str)) = false := by decide) (hcd : (y == ("__classdict__" : Str)) = false := by decide) (hm : behindInMarks .NotIn (.Name y py) = false := by rfl) :
    PTd Z X (.Compare e [.NotIn] [.Name y py] pos) (tTest (tOp (rInN X.kw true) te (tVar k))) (wTest (wInT true k we)) := ⟨pt_cmpR (op_notInN hu) h.p (pe_var hN hv hd hcd) hm, imp_test (imp_inT true k h.i)⟩
/-! {k: v} -/
theorem keys_snoc {K : KW} {M M' : MS} {H H' : Hp} {p a : Addr} {L : DL} {ks : List PyData} {k : NestedKey} {u : V} {d : PyData} (k1 : ks.map nk = L.map (fun q => some q.1)) (k2 : RpAll K M H (L.map fun q => V.ref q.2.1) ks) (k4 : ∀ q ∈ L, q.1.depth ≤ 8) (rk : Rp K M H (.ref a) d) (hk : nkT d = some k) (ml : ∀ a, M a → Mut (H a)) (g : Stp M H M' H') (e : H' p = some (DNO K.P K.w p (L ++ [(k, a, u)]))) :
    NKeys K M' H' p (ks ++ [d]) (L.map (·.2.2) ++ [u]) := by
  obtain ⟨n1, n2, _⟩ := nkT_some hk
  refine ⟨L ++ [(k, a, u)], e, ?_, ?_, fun q hq => ?_, ?_⟩
  · rw [List.map_append]
    exact (RpAll.stp ml g _ _ k2).append (.cons (Rp.stp ml g _ _ rk) .nil)
  · rw [List.map_append, List.map_append, k1]
    show _ ++ [nk d] = _ ++ [some k]
    rw [n1]
  · rcases List.mem_append.mp hq with hq | hq
    · exact k4 q hq
    · rw [List.mem_singleton] at hq
      subst hq
      exact n2
  · rw [List.map_append]
    rfl
def wNewT1 (wk : WE) (wn : WN) : WN := fun ρ P => wk ρ fun d ρ1 => wn ρ1 fun t ρ2 => ∃ kk, nkT d = some kk ∧ P (.nt [d] [t]) ρ2
theorem n_newT1 (hu : X.A.units + 20 < cLine) (hk : PEd Z X ke tk wk) (hv : PNd Z X e te wn)
    (hshape : (evalEachOpt [some ke] X.env).zip ((evalEach [e] X.env).map fun v => do let x ← v; standAt pos; pure x) = [(eval ke X.env, do let x ← eval e X.env; standAt pos; pure x)].map fun p => (some p.1, p.2) := by rfl) : PNd Z X (.Dict [some ke] [e] pos) (tNew1 X.kw tk te) (wNewT1 wk wn) := by
  refine ⟨pe_new1 hu hk.p hv.p hshape, fun F G M σ H ρ R P hw Q k p hp => ?_⟩
  have R1 := R.r.new hp (o := DNO X.prog X.w p []) (t := .nt [] []) trivial (.nt (.inr rfl) ⟨[], upd_same, .nil, rfl, fun q hq => (by cases hq), rfl⟩ .nil)
  refine hk.i F _ _ σ _ ρ (R.up R1) _ hw _ fun d ρ1 v M1 H1 R2 r1 hw1 => ?_
  refine hv.i F _ _ σ _ ρ1 (R2.push r1) _ hw1 _ fun tr ρ2 u M2 H2 R3 ⟨kk, ek, q⟩ => ?_
  obtain ⟨R4, r4⟩ := R3.r.exch.popD
  obtain ⟨a, rfl, ka⟩ := key_of r4 ek
  obtain ⟨fp, fq, rt, ru, nd, fin⟩ := R4.chg2
  cases rt with
  | @nt _ _ vs _ fp0 hM nk rts =>
    have hts := rts.length
    cases rts with
    | nil =>
      obtain ⟨L, dl, k1, k2, k4, k5⟩ := nk.at
      have eL : L = [] := by
        cases L with
        | nil => rfl
        | cons q L => cases k1
      subst eL
      refine ⟨a, kk, rfl, dl.1, ka, ?_⟩
      have hpq : p ∉ fq := fun z => (List.nodup_append.mp nd).2.2 p List.mem_cons_self p z rfl
      have R5 := fin (upd H2 p (DNO X.prog X.w p [(kk, a, u)])) (.nt [d] [tr]) (p :: (fq ++ [])) (fun c o n e => by rw [upd_ne (fun z => n (by rw [z]; exact List.mem_cons_self))]; exact e) (fun c hc => by
          rw [List.mem_singleton] at hc
          subst hc
          rw [upd_same]
          trivial)
        (fun g => .nt (.inl hM) (keys_snoc (L := []) (ks := []) rfl .nil (fun q hq => by cases hq) r4 ek R4.ml g upd_same) (.cons (ru.stp R4.ml g fun c hc => ⟨.inl (ru.mem c hc), upd_ne fun z => hpq (z ▸ hc)⟩) .nil))
        (by rw [List.append_nil]; exact nd) (fun c hc => by rw [List.append_nil] at hc; rcases List.mem_cons.mp hc with rfl | hc; exact .inl List.mem_cons_self; exact .inr hc)
      exact k _ ρ2 _ _ _ (R.up R5) q
/-! d[k] + [x]: a new list of one's own -/
def wAddT (k i : Nat) (wb : WE) : WN := fun ρ P => (∃ bb ks ts, ρ[k]? = some (some (.o bb (.nt ks ts)))) ∧ wb ρ fun y ρ1 => ∃ b ks ts kk j xs x, ρ1[k]? = some (some (.o b (.nt ks ts))) ∧ nkT y = some kk ∧ ixK ks kk = some j ∧ ts[j]? = some (.l xs) ∧ ρ1[i]? = some (some (.d x)) ∧ xs.length ≤ 1000000 ∧ P (.l (xs ++ [x])) ρ1
theorem n_addT (k i : Nat) {x y : Str} {p py spos lpos : Pos} (hu : X.A.units + 20 < cLine) (hb : PEd Z X b tb wb) (hN : X.N[k]? = some x := by rfl) (hv : Vis X.env.scope x := by first | exact Or.inl rfl | exact Or.inr (Or.inl rfl) | exact Or.inr (Or.inr rfl)) (hd : (x == ("__debug__" : Str)) = false := by decide) (hcd : (x == ("__classdict__" : Str)) = false := by decide) (hs : PlainIx b := by exact fun _ _ => rfl)
    (hN2 : X.N[i]? = some y := by rfl) (hv2 : Vis X.env.scope y := by first | exact Or.inl rfl | exact Or.inr (Or.inl rfl) | exact Or.inr (Or.inr rfl)) (hd2 : (y == ("__debug__" : Str)) = false := by decide) (hcd2 : (y == ("__classdict__" : Str)) = false := by decide) (he : starEach [.Name y py] X.env = (false, eval (.Name y py) X.env) :: starEach [] X.env := by rfl) :
    PNd Z X (.BinOp (.Subscript (.Name x p) b spos) .Add (.List [.Name y py] lpos) pos) (tOp (rAddA X.kw) (tOp (rIxN X.kw) (tVar k) tb) (tLst (tCons (tVar i) tNil))) (wAddT k i wb) := by
  refine ⟨pe_op op_addA (pe_ix (ix_n hu) (pe_var hN hv hd hcd) hb.p hs) (pe_lst (pa_cons (pe_var hN2 hv2 hd2 hcd2) pa_nil he)), fun F G M σ H ρ R P hw Q kk => ?_⟩
  obtain ⟨⟨b0, ks0, ts0, e0⟩, hw⟩ := hw
  obtain ⟨p0, _, _, h1, _⟩ := R.r.ndT e0
  refine ⟨.ref p0, h1, ?_⟩
  refine hb.i F G M σ H ρ R _ hw _ fun yy ρ1 v M1 H1 R1 r1 ⟨b1, ks, ts, ky, j, xs, xx, e1, ek, ej, et, ei, hl, q⟩ => ?_
  obtain ⟨p1, vs, fp, z1, nd, rts⟩ := R1.r.ndT e1
  rw [h1] at z1
  cases z1
  obtain ⟨L, dl, k1, k2, k4, k5⟩ := nd.at
  obtain ⟨a, rfl, ka⟩ := key_of r1 ek
  obtain ⟨v', l1, l2⟩ := (look_ix (k := ky) L ks k1).2 j ej
  rw [k5] at l2
  obtain ⟨fq, rl, _⟩ := rts.nth j v' _ l2 et
  obtain ⟨vx, g1, g2⟩ := R1.r.dat ei
  cases rl with
  | @l q0 us _ hM hq rus =>
    refine ⟨p0, a, L, ky, _, rfl, rfl, dl, ka, l1, ?_⟩
    refine ⟨vx, g1, by show 0 + 1 ≤ sizeLine; rw [sizeLine_eq]; decide, fun l hl0 => ?_⟩
    have sm := same_new (o := .lst [vx]) hl0
    have R2 := R1.same sm
    have hq2 : upd H1 l (.lst [vx]) q0 = some (.lst us) := sm _ _ hq
    refine .inr (.inr (.inl ⟨q0, l, us, [vx], rfl, rfl, hq2, upd_same, ?_, fun r hr => ?_⟩))
    · rw [rus.length, sizeLine_eq, List.length_singleton]
      omega
    · have rus2 : RpAll X.kw M1 (upd H1 l (.lst [vx])) us xs := RpAll.same R1.r.ml sm rus
      have rx2 : Rp X.kw M1 (upd H1 l (.lst [vx])) vx xx := Rp.same R1.r.ml sm g2
      have g := stp_new R2.r (o := .lst (us ++ [vx])) hr
      exact kk _ ρ1 _ _ _ (R1.up (R2.r.new hr (o := .lst (us ++ [vx])) (t := .l (xs ++ [xx])) trivial (.l (.inr rfl) upd_same ((RpAll.stp R2.r.ml g _ _ rus2).append (.cons (Rp.stp R2.r.ml g _ _ rx2) .nil))))) q
/-! d[k] = a tree -/
def wPutT (k : Nat) (wk : WE) (wn : WN) : WS := fun E ρ => wn ρ fun tr ρ1 => (∃ b ks ts, ρ1[k]? = some (some (.o b (.nt ks ts)))) ∧ wk ρ1 fun d ρ2 => ∃ b ks ts kk, ρ2[k]? = some (some (.o b (.nt ks ts))) ∧ b.may = true ∧ nkT d = some kk ∧ hasK ks kk = false ∧ ks.length ≤ 1000000 ∧ E.nx (ρ2.set k (some (.o b (.nt (ks ++ [d]) (ts ++ [tr])))))
theorem s_putT (k : Nat) {x : Str} {p sp : Pos} (hu : X.A.units + 20 < cLine) (hk : PEd Z X ke tk wk) (he : PNd Z X e te wn) (hN : X.N[k]? = some x := by rfl) (hv : Vis X.env.scope x := by first | exact Or.inl rfl | exact Or.inr (Or.inl rfl) | exact Or.inr (Or.inr rfl)) (hd : (x == ("__debug__" : Str)) = false := by decide) (hcd : (x == ("__classdict__" : Str)) = false := by decide)
    (hs : swapsWithSole [.Subscript (.Name x p) ke sp] e pos.line X.env = pure false := by rfl) (hw : swappedStores [.Subscript (.Name x p) ke sp] e X.env = pure none := by rfl)
    (ha : ∀ v, assign (.Subscript (.Name x p) ke sp) X.env v = (do
      let ov ← holding [v] (eval (.Name x p) X.env)
      let iv ← holding [v, ov] (eval ke X.env)
      standAt sp
      holding [v, ov, iv] (setItem ov iv v)
      release [v, ov, iv] []) := by intro _; rfl) :
    PSd Z X (.Assign [.Subscript (.Name x p) ke sp] e pos) (tAsg te (gSub (tVar k) tk (rSetN X.kw))) (wPutT k wk wn) := by
  refine ⟨ps_asg he.p (pg_sub (pe_var hN hv hd hcd) hk.p (set_n hu) ha) hs hw, fun F G M σ H ρ R E hq D cn => ?_⟩
  refine he.i F G M σ H ρ R _ hq _ fun tr ρ1 u M1 H1 R1 ⟨⟨b0, ks0, ts0, e0⟩, hw1⟩ => ?_
  obtain ⟨p1, _, _, z1, _⟩ := R1.r.ndT e0
  refine ⟨.ref p1, z1, ?_⟩
  refine hk.i F ((u, tr) :: G) M1 σ H1 ρ1 R1 _ hw1 _ fun d ρ2 w M2 H2 R2 r2 ⟨b1, ks, ts, kk, e1, hb, ek, hn, hl, q⟩ => ?_
  obtain ⟨a, rfl, ka⟩ := key_of r2 ek
  obtain ⟨v, fp, fq, s1, rt, ru, nd, fin⟩ := R2.r.chg e1 (fun z => by rw [z] at hb; cases hb)
  cases rt with
  | @nt p2 _ vs _ fp0 hM nk rts =>
    rw [z1] at s1
    cases s1
    obtain ⟨L, dl, k1, k2, k4, k5⟩ := nk.at
    have hll : L.length = ks.length := by
      have := congrArg List.length k1
      rw [List.length_map, List.length_map] at this
      exact this.symm
    have ln : (lookL L kk).isSome = false := by rw [(look_ix (k := kk) L ks k1).1]; exact hn
    have es : storeL L kk a u = L ++ [(kk, a, u)] := by
      unfold storeL
      rw [ln, if_neg (by decide)]
    refine ⟨p1, a, L, kk, rfl, rfl, dl, ka, by omega, ?_⟩
    rw [es]
    have nd' := List.nodup_append.mp nd
    have nd0 := List.nodup_cons.mp nd'.1
    have hpq : p1 ∉ fq := fun z => nd'.2.2 p1 List.mem_cons_self p1 z rfl
    have kp : ∀ c o, c ∉ p1 :: fp0 → H2 c = some o → upd H2 p1 (DNO X.prog X.w p1 (L ++ [(kk, a, u)])) c = some o := fun c o n z => by
      rw [upd_ne (fun y => n (by rw [y]; exact List.mem_cons_self))]
      exact z
    have mt : ∀ c, c ∈ p1 :: fp0 ∨ c ∈ ([] : List Addr) → Mut (upd H2 p1 (DNO X.prog X.w p1 (L ++ [(kk, a, u)])) c) := fun c hc => by
      rcases hc with hc | hc
      · by_cases z : c = p1
        · subst z
          rw [upd_same]
          trivial
        · rw [upd_ne z]
          rcases List.mem_cons.mp hc with hc | hc
          · exact absurd hc z
          · exact R2.r.ml c (rts.mem c hc)
      · cases hc
    have g : Stp M2 H2 (fun c => M2 c ∨ c ∈ ([] : List Addr)) (upd H2 p1 (DNO X.prog X.w p1 (L ++ [(kk, a, u)]))) := ⟨fun c h => h.elim .inl fun h => (by cases h), fun c o n z => (by
      have nc : c ≠ p1 := fun y => n (by rw [y]; exact hM)
      rw [upd_ne nc]
      exact z)⟩
    have R5 := fin [] (upd H2 p1 (DNO X.prog X.w p1 (L ++ [(kk, a, u)]))) (.nt (ks ++ [d]) (ts ++ [tr])) (p1 :: (fp0 ++ (fq ++ []))) (fun c hc => by cases hc) kp mt
      (.nt (.inl hM) (by
        have z := keys_snoc (u := u) k1 k2 k4 r2 ek R2.r.ml g upd_same
        rw [k5] at z
        exact z) ((rts.stp R2.r.ml g fun c hc => ⟨.inl (rts.mem c hc), upd_ne fun z => nd0.1 (z ▸ hc)⟩).append (.cons (ru.stp R2.r.ml g fun c hc => ⟨.inl (ru.mem c hc), upd_ne fun z => hpq (z ▸ hc)⟩) .nil)))
      (by rw [List.append_nil]; exact nd) (fun c hc => by
        rw [List.append_nil] at hc
        rcases List.mem_cons.mp hc with rfl | hc
        · exact .inl List.mem_cons_self
        · rcases List.mem_append.mp hc with hc | hc
          · exact .inl (List.mem_cons_of_mem _ hc)
          · exact .inr (.inl hc))
    exact cn.nx _ _ σ _ R5 q
/-! d[k], taken out: the dict is left -/
def wTakeT (k : Nat) (wb : WE) : WN := fun ρ P => (∃ ks ts, ρ[k]? = some (some (.o .loc (.nt ks ts)))) ∧ wb ρ fun y ρ1 => ∃ ks ts kk j t, ρ1[k]? = some (some (.o .loc (.nt ks ts))) ∧ nkT y = some kk ∧ ixK ks kk = some j ∧ ts[j]? = some t ∧ P t (ρ1.set k none)
theorem n_takeT (k : Nat) {x : Str} {p : Pos} (hu : X.A.units + 20 < cLine) (hb : PEd Z X b tb wb) (hN : X.N[k]? = some x := by rfl) (hv : Vis X.env.scope x := by first | exact Or.inl rfl | exact Or.inr (Or.inl rfl) | exact Or.inr (Or.inr rfl)) (hd : (x == ("__debug__" : Str)) = false := by decide) (hcd : (x == ("__classdict__" : Str)) = false := by decide) (hs : PlainIx b := by exact fun _ _ => rfl) :
    PNd Z X (.Subscript (.Name x p) b pos) (tOp (rIxN X.kw) (tVar k) tb) (wTakeT k wb) := by
  refine ⟨pe_ix (ix_n hu) (pe_var hN hv hd hcd) hb.p hs, fun F G M σ H ρ R P hw Q kk => ?_⟩
  obtain ⟨⟨ks0, ts0, e0⟩, hw⟩ := hw
  obtain ⟨p0, _, _, h1, _⟩ := R.r.ndT e0
  refine ⟨.ref p0, h1, ?_⟩
  refine hb.i F G M σ H ρ R _ hw _ fun yy ρ1 v M1 H1 R1 r1 ⟨ks, ts, ky, j, t, e1, ek, ej, et, q⟩ => ?_
  obtain ⟨v2, y1, R2⟩ := R1.r.give e1
  rw [h1] at y1
  cases y1
  obtain ⟨fp, rt, fin⟩ := R2.part
  cases rt with
  | nt hM nd rts =>
    obtain ⟨L, dl, k1, k2, k4, k5⟩ := nd.at
    obtain ⟨a, rfl, ka⟩ := key_of r1 ek
    obtain ⟨v', l1, l2⟩ := (look_ix (k := ky) L ks k1).2 j ej
    rw [k5] at l2
    refine ⟨p0, a, L, ky, v', rfl, rfl, dl, ka, l1, ?_⟩
    obtain ⟨fq, q1, q2⟩ := rts.nth j v' t l2 et
    exact kk t _ v' M1 H1 (R1.up (fin v' t fq q1 (q2.trans (List.sublist_cons_self _ _)))) q
/-! tuples of trees -/
def wTupT (wa wb : WN) : WN := fun ρ P => wa ρ fun t1 ρ1 => wb ρ1 fun t2 ρ2 => P (.t [t1, t2]) ρ2
theorem n_tupT {a b : Expr} {ta tb : TE} {wa wb : WN} {x1} (ha : PNd Z X a ta wa) (hb : PNd Z X b tb wb) (h1 : starEach [a, b] X.env = (false, eval a X.env) :: starEach [b] X.env := by rfl) (h2 : starEach [b] X.env = (false, eval b X.env) :: starEach [] X.env := by rfl) : PNd Z X (.Tuple [a, b] x1 pos) (tTup (tCons ta (tCons tb tNil))) (wTupT wa wb) := by
  refine ⟨pe_tup (pa_cons ha.p (pa_cons hb.p pa_nil h2) h1), fun F G M σ H ρ R P hw Q k => ?_⟩
  refine ha.i F G M σ H ρ R _ hw _ fun t1 ρ1 v1 M1 H1 R1 hw1 => ?_
  refine hb.i F _ M1 σ H1 ρ1 R1 _ hw1 _ fun t2 ρ2 v2 M2 H2 R2 q => ?_
  refine ⟨by show 0 + 1 + 1 ≤ sizeLine; rw [sizeLine_eq]; decide, fun p hp => ?_⟩
  exact k _ ρ2 _ _ _ (R.up (R2.r.tup2 hp)) q
/-! x, y = a tuple of trees -/
def wUnpT (w : WN) (i j : Nat) : WS := fun E ρ => w ρ fun t ρ1 => ∃ t1 t2, t = .t [t1, t2] ∧ E.nx ((ρ1.set i (some (slotOf t1))).set j (some (slotOf t2)))
theorem s_unpT {i j : Nat} {x y : Str} {px py pt : Pos} {kt} {w : WN} (hN : X.N.Nodup) (he : PNd Z X e te w) (hi : X.N[i]? = some x := by rfl) (hj : X.N[j]? = some y := by rfl) (hx : Loc X.env.scope x := by first | exact Or.inl rfl | exact Or.inr rfl) (hy : Loc X.env.scope y := by first | exact Or.inl rfl | exact Or.inr rfl) (hc : X.calm = true := by rfl)
    (fx : X.fn x = true ∨ X.env.scope.names.lookup x = some .local := by first | exact .inl rfl | exact .inr rfl | assumption) (fy : X.fn y = true ∨ X.env.scope.names.lookup y = some .local := by first | exact .inl rfl | exact .inr rfl | assumption)
    (h1 : (assignEach [.Name x px, .Name y py] X.env).map (·.2) = assign (.Name x px) X.env :: (assignEach [.Name y py] X.env).map (·.2) := by rfl) (h2 : (assignEach [.Name y py] X.env).map (·.2) = assign (.Name y py) X.env :: (assignEach [] X.env).map (·.2) := by rfl)
    (hn : (assignEach [.Name x px, .Name y py] X.env).length = 2 := by rfl) (hst : (assignEach [.Name x px, .Name y py] X.env).findIdx? (·.1) = none := by rfl)
    (hs : swapsWithSole [.Tuple [.Name x px, .Name y py] kt pt] e pos.line X.env = pure false := by rfl) (hw : swappedStores [.Tuple [.Name x px, .Name y py] kt pt] e X.env = pure none := by rfl)
    (h3 : (assignEach [.Tuple [.Name x px, .Name y py] kt pt] X.env).map (·.2) = [assign (.Tuple [.Name x px, .Name y py] kt pt) X.env] := by rfl) :
    PSd Z X (.Assign [.Tuple [.Name x px, .Name y py] kt pt] e pos) (tAsg te (gTup X.K 2 (gCons (gName i) (gCons (gName j) gNil)))) (wUnpT w i j) := by
  refine ⟨ps_asg he.p (pg_tup hc (pgs_cons (pg_name hN hi hx fx) (pgs_cons (pg_name hN hj hy fy) pgs_nil h2) h1) hn hst) hs hw h3, fun F G M σ H ρ R E hq D cn => ?_⟩
  refine he.i F G M σ H ρ R _ hq _ fun tr ρ1 v M1 H1 R1 ⟨t1, t2, et, q⟩ => ?_
  subst et
  obtain ⟨a, v1, v2, rfl, sq, R2⟩ := R1.r.untup
  refine ⟨a, _, rfl, sq, rfl, v1, _, rfl, v2, _, rfl, rfl, ?_⟩
  exact cn.nx _ M1 _ H1 ((R2.takeS i).takeS j) q
/-! what a name has, a tree or a datum -/
def wGiveS (k : Nat) : WN := fun ρ P => (∃ t, ρ[k]? = some (some (.o .loc t)) ∧ P t (ρ.set k none)) ∨ ∃ x, ρ[k]? = some (some (.d x)) ∧ P (.d x) ρ
theorem n_giveS (k : Nat) {x : Str} {p : Pos} (hN : X.N[k]? = some x := by rfl) (hv : Vis X.env.scope x := by first | exact Or.inl rfl | exact Or.inr (Or.inl rfl) | exact Or.inr (Or.inr rfl)) (hd : (x == ("__debug__" : Str)) = false := by decide) (hcd : (x == ("__classdict__" : Str)) = false := by decide) :
    PNd Z X (.Name x p) (tVar k) (wGiveS k) := by
  refine ⟨pe_var hN hv hd hcd, fun F G M σ H ρ R P hw Q kk => ?_⟩
  rcases hw with ⟨tr, e, hw⟩ | ⟨x, e, hw⟩
  · obtain ⟨v, h1, R1⟩ := R.r.give e
    exact ⟨v, h1, kk tr _ v M H (R.up R1) hw⟩
  · obtain ⟨v, h1, r⟩ := R.r.dat e
    exact ⟨v, h1, kk (.d x) ρ v M H (R.push r) hw⟩
/-! o.m(..) that gives a new tree -/
def wMethL (c m : Str) (wf : WFL) (wo : WE) (wr : WA) : WN := fun ρ P => wo ρ fun d ρ1 => isIns c m d = true ∧ wr ρ1 fun xs ρ2 => wf (d :: xs) fun z => P z ρ2
theorem CalM.lm {o e : Expr} {es : List Expr} {m : Str} {apos : Pos} {to : TE} {ta : TA} {wo : WE} {wr : WA} {wf : WFL} {c : Str} {k : Nat} {ps : List Str} {fa : Addr} {fd : FuncData} {pl : Sem Bool} (C : CalM X.prog X.w X.K X.mg X.base c m k ps (wfL wf) fa fd) (hg : X.A.guards = some []) (hr : Room k X.A) (ho : PEd Z X o to wo) (ha : PAd Z X (e :: es) ta wr)
    (hst : starEach (e :: es) X.env = (false, eval e X.env) :: starEach es X.env := by rfl) (hpl : (backTo pos (starEach es X.env)).any (·.1) = false := by rfl)
    (ht : eval (.Call (.Attribute o m apos) (e :: es) [] pos) X.env = (do
      let ov ← eval o X.env
      standAt apos.atName
      let (g, first) ← holding [ov] (getMethod ov m pl)
      callWith pos g first (backTo pos (starEach (e :: es) X.env)) (backToKw pos (keywordEach [] X.env))) := by rfl) :
    PNd Z X (.Call (.Attribute o m apos) (e :: es) [] pos) (tMethW (He.ga X.K c) m (spG X.kw X.mg (wfL wf)) to ta) (wMethL c m wf wo wr) := by
  refine ⟨⟨fun pins s σ H Q I h => ?_⟩, fun F G M σ H ρ R P hw Q kk => ?_⟩
  · refine PySem.W.methodCall_KW (pl := pl) (thn (ho.p.run pins s σ H _ I h) fun u s1 ⟨x, H1, I1, rx, a, dx, fs, ex, ea, l, q⟩ => ?_) ht
    subst ex
    obtain rfl : u = Value.ref a := rx
    refine getmeth_ok I1 ea C.cl C.mt l ?_
    refine PySem.W.callWith_K (first := [.ref a]) (h₀ := X.base) I.ok.mod.kin C.mt.kp (thn (ha.p.run pos pins s1 σ H1 _ I1 q) fun us s2 ⟨vs, H2, I2, r, q2⟩ => ⟨I2.kIn, ?_⟩) hst hpl
    have r2 : Vals (V.ref a :: vs) (Value.ref a :: us) := .cons rfl r
    have hb := C.bd s2 (Value.ref a :: us) I2.kIn (by rw [List.append_nil, ← r2.length]; exact C.g.len _ _ _ _ q2)
    rw [List.append_nil] at hb
    exact ran_call C.g hg hr takesN0 I2 hb r2 q2
  · refine ho.i F G M σ H ρ R _ hw _ fun d ρ1 v M1 H1 R1 r1 ⟨hi, hw1⟩ => ?_
    unfold isIns at hi
    split at hi
    · rename_i c' kvs
      obtain ⟨h1, h2⟩ := Bool.and_eq_true_iff.mp hi
      have hcc := of_decide_eq_true h1
      subst hcc
      obtain ⟨a, dx, fs, vs, rfl, e1, e2, ra⟩ := ins_rp r1
      subst e1
      rw [lookF_fs] at h2
      refine ⟨a, dx, _, rfl, e2, look_none ra (Option.isNone_iff_eq_none.mp h2), ?_⟩
      refine ha.i F ((_, .d _) :: G) M1 σ H1 ρ1 (R1.push r1) _ hw1 _ fun xs ρ2 us M2 H2 R2 r2 q => ?_
      obtain ⟨R3, r3⟩ := R2.r.popD
      exact call_L (R1.to R3) (.cons r3 r2) q kk
    · cases hi
end
end Dat
set_option Elab.async false
set_option linter.all false
set_option maxRecDepth 100000
set_option maxHeartbeats 4000000
/-! Exceptions made and held as values: C(e), C(k=e), C(). -/
namespace PySem.F
open PySem
theorem store_KeyError : StoreFacts "KeyError" [.type "KeyError", .type "LookupError", .type "Exception", .type "BaseException", .type "object"] "object.__setattr__" "object" where
  mro := by kernel_rfl
  slot := .of (owner := "object") (n := "__setattr__") (by rw [typeLookup_type, builtinLookup_eq_fast]; kernel_rfl) (by decide +kernel) (by decide +kernel) (by decide +kernel)
    (by first | exact .inl (by decide +kernel) | exact .inr (by decide +kernel)) (by rw [isSubtype_type]; kernel_rfl)
  entry := entry_object_sa
  kind := by decide +kernel
  split := by decide +kernel
  hasOwner := by decide +kernel
  args := fun a b c => by unfold argsOk; kernel_rfl
  passes := fun self => by kernel_rfl
end PySem.F
namespace Dat
open PySem PySem.Spec PyProof.Rows L2
/-! ### the bases -/
abbrev veBm : List Value := [.type "ValueError", .type "Exception", .type "BaseException", .type "object"]
abbrev keBm : List Value := [.type "KeyError", .type "LookupError", .type "Exception", .type "BaseException", .type "object"]
abbrev leBm : List Value := [.type "LookupError", .type "Exception", .type "BaseException", .type "object"]
abbrev reBm : List Value := [.type "RuntimeError", .type "Exception", .type "BaseException", .type "object"]
abbrev XTV (K : PySem.W.Frag) (x f : Str) : Prop := XT K x f "ValueError" "ValueError.__new__" "ValueError.__init__" veBm
abbrev XTK (K : PySem.W.Frag) (x f : Str) : Prop := XT K x f "KeyError" "LookupError.__new__" "" keBm
abbrev XTL (K : PySem.W.Frag) (x f : Str) : Prop := XT K x f "LookupError" "LookupError.__new__" "LookupError.__init__" leBm
abbrev XTR (K : PySem.W.Frag) (x f : Str) : Prop := XT K x f "RuntimeError" "RuntimeError.__new__" "RuntimeError.__init__" reBm
theorem xtv_ok {K : PySem.W.Frag} {x f : Str} (h : xtB K x f "ValueError.__new__" veBm = true) : XTV K x f := xt_ok (exN_of PySem.F.excBase_ValueError) PySem.F.store_ValueError h
theorem xtl_ok {K : PySem.W.Frag} {x f : Str} (h : xtB K x f "LookupError.__new__" leBm = true) : XTL K x f := xt_ok (exN_of PySem.F.excBase_LookupError) PySem.F.store_LookupError h
theorem xtr_ok {K : PySem.W.Frag} {x f : Str} (h : xtB K x f "RuntimeError.__new__" reBm = true) : XTR K x f := xt_ok (exN_of PySem.F.excBase_RuntimeError) PySem.F.store_RuntimeError h
theorem exN_key : ExN "LookupError.__new__" keBm := ⟨⟨_, _, _, PySem.F.excBase_LookupError, by decide +kernel⟩, by decide +kernel, by decide +kernel⟩
theorem xtk_ok {K : PySem.W.Frag} {x f : Str} (h : xtB K x f "LookupError.__new__" keBm = true) : XTK K x f := xt_ok exN_key PySem.F.store_KeyError h
/-! ### the value is tracked -/
def tEv (t : L2.St → Hp → XK → Prop) : TE := fun σ H Q => t σ H fun cls d H' => ∀ a oe, H' a = none → L2N.Zn cls d oe → (∃ fv, oe.data = .fields fv) → Q (.ref a) (upd H' a (.frz oe frzU))
theorem pe_ev {X : Cx} {e : Expr} {t : L2.St → Hp → XK → Prop} (h : L2N.PMk X e t) : PE X e (tEv t) := by
  refine ⟨fun pins s σ H Q I hq => ?_⟩
  refine wpAny_mono (h pins s σ H _ I hq) (fun u s1 hu => ?_) fun _ _ x => x
  obtain ⟨a, oe, vs, sI, H', cls, d, rfl, J, k, hne, ha, hz, hd, h1, na, os, ag, r, q⟩ := hu
  have J2 := J.laidN (t' := s1.toks) (o := .frz oe frzU) k hne na ⟨ha, trivial, ⟨_, ha⟩, fun _ _ _ _ => trivial⟩
  refine ⟨.ref a, _, ?_, rfl, q a oe na hz ⟨_, hd⟩⟩
  exact ⟨J2.ok, os.trans J2.os, ag, J2.base, J2.loc, J2.cell, J2.free, J2.freeC, J2.pin, J2.hok, J2.len⟩
/-! ### C(e), C(k=e) -/
def wMkE (x f : Str) (wr : WA) : WE := fun ρ P => wr ρ fun xs ρ1 => ∃ y, xs = [y] ∧ P (excDt ⟨x, [(f, y)]⟩) ρ1
theorem imp_mkE {Z : XC} {K : KW} {x f : Str} {ta : TA} {wr : WA} (ha : ImpA Z K ta wr) : ImpE Z K (tEv (tMk1 (He.ga K.k x) f ta)) (wMkE x f wr) := by
  intro F G M σ H ρ R P hw Q k
  refine ha F G M σ H ρ R _ hw _ fun xs ρ1 vs M1 H1 R1 r1 ⟨y, ey, q⟩ => ?_
  subst ey
  cases r1 with
  | cons r1 r2 =>
    cases r2
    rename_i _ v
    refine ⟨v, rfl, fun d hd => ?_⟩
    intro a oe na hz hf
    have s1 : Same H1 (upd H1 d (.xd [(f, v)])) := same_new hd
    have s2 : Same H1 (upd (upd H1 d (.xd [(f, v)])) a (.frz oe frzU)) := s1.trans (same_new na)
    refine k (excDt ⟨x, [(f, y)]⟩) ρ1 _ M1 _ (R1.same s2) ?_ q
    refine .exc (fs := [(f, y)]) (vs := [_]) rfl upd_same ⟨hz.1, hf⟩ (.inr ⟨d, hz.2.1, (same_new na) _ _ upd_same⟩) (.cons (r1.same R1.ml s2) .nil)
/-- what a def needs to make it by a keyword -/
structure Mk1K (P : Program) (w : World) (K : PySem.W.Frag) (mg : Str → Option Value) (base : Heap) (x f pn : Str) : Prop where
  ex : ∃ (B newId initId : String) (bmB : List Value) (fI : Addr) (fd : FuncData) (ps : List Str), OexB K B newId initId bmB (He.ga K x) f ∧ PySem.W.findIn K (.ref (He.ga K x)) "__init__" = some (some (.ref fI)) ∧ PySem.W.typeIn K (.ref fI) = some (.type "function") ∧
    FnOk P w K mg base (L2N.CX P w) 1 fI fd ps (spI (He.ga K x) f) ∧ KBn K fd ps 1 [pn] (· ++ ·) (· ++ ·) ∧ mg x = some (.ref (He.ga K x))
section
variable {Z : XC} {X : Cx} {x f pn : Str} {e : Expr} {ta : TA} {wr : WA} {p pos kpos : Pos}
theorem d_mkE (M : Mk1 X.prog X.w X.K X.mg X.base x f) (hr : Room 2 X.A) (ha : PAd Z X [e] ta wr) (hg : Gl X x := by rfl)
    (hdb : (x == ("__debug__" : Str)) = false := by decide) (he : starEach [e] X.env = (false, eval e X.env) :: starEach [] X.env := by rfl) (hpl : (backTo pos (starEach [] X.env)).any (·.1) = false := by rfl) :
    PEd Z X (.Call (.Name x p) [e] [] pos) (tEv (tMk1 (He.ga X.K x) f ta)) (wMkE x f wr) := by
  obtain ⟨B, newId, initId, bmB, fI, fd, ps, T, iC, tI, F1, hb, hm⟩ := M.ex
  exact ⟨pe_ev (pmk_1 T iC tI F1 hr hb (L2N.passes_call takesN0 fun _ _ _ _ z => z) hg hm ha.p hdb he hpl), imp_mkE ha.i⟩
theorem d_mkEK (M : Mk1K X.prog X.w X.K X.mg X.base x f pn) (hr : Room 2 X.A) (ha : PKd Z X [⟨some pn, e, kpos⟩] ta wr) (hg : Gl X x := by rfl)
    (hall : (backToKw pos (keywordEach [⟨some pn, e, kpos⟩] X.env)).all (·.1.isSome) = true := by rfl) (hks : (backToKw pos (keywordEach [⟨some pn, e, kpos⟩] X.env)).filterMap (·.1) = [pn] := by rfl)
    (hdb : (x == ("__debug__" : Str)) = false := by decide) (hpl : ((backTo pos (starEach [] X.env)).any (·.1) || (backToKw pos (keywordEach [⟨some pn, e, kpos⟩] X.env)).any (·.1.isNone)) = false := by rfl) :
    PEd Z X (.Call (.Name x p) [] [⟨some pn, e, kpos⟩] pos) (tEv (tMk1 (He.ga X.K x) f ta)) (wMkE x f wr) := by
  obtain ⟨B, newId, initId, bmB, fI, fd, ps, T, iC, tI, F1, hb, hm⟩ := M.ex
  exact ⟨pe_ev (pmk_1k T iC tI F1 hr hb (L2N.passes_call takesN0 fun _ _ _ _ z => z) hg hm ha.p hall hks hdb hpl), imp_mkE ha.i⟩
end
/-! ### C() of a class without an __init__ of its own -/
structure XB (K : PySem.W.Frag) (x : Str) : Prop where
  q : PySem.W.excIn K (He.ga K x) veBm "ValueError.__new__" = true
  exC : PySem.W.subIn K (.ref (He.ga K x)) (.type "BaseException") = some true
  tyC : PySem.W.typeIn K (.ref (He.ga K x)) = some (.type "type")
  kC : PySem.W.keepIn K (.ref (He.ga K x)) = true
def xbB (K : PySem.W.Frag) (x : Str) : Bool := PySem.W.excIn K (He.ga K x) veBm "ValueError.__new__" && (decide (PySem.W.subIn K (.ref (He.ga K x)) (.type "BaseException") = some true) && (decide (PySem.W.typeIn K (.ref (He.ga K x)) = some (.type "type")) && PySem.W.keepIn K (.ref (He.ga K x))))
theorem xb_ok {K : PySem.W.Frag} {x : Str} (h : xbB K x = true) : XB K x := by
  unfold xbB at h
  simp only [Bool.and_eq_true, decide_eq_true_eq] at h
  obtain ⟨h1, h2, h3, h4⟩ := h
  exact ⟨h1, h2, h3, h4⟩
section
variable {Z : XC} {X : Cx} {x : Str} {p pos : Pos}
theorem pmk_own0 (T : XB X.K x) (hm : X.mg x = some (.ref (He.ga X.K x))) (hg : Gl X x) (hdb : (x == ("__debug__" : Str)) = false := by decide) :
    L2N.PMk X (.Call (.Name x p) [] [] pos) (fun _ H Q => Q (.ref (He.ga X.K x)) none H) := by
  intro pins s σ H Q I h
  refine wpAny_Call_Name_kw (ld_glob I hg hm ?_ hdb)
  refine PySem.W.callWith_K0 I.kIn T.kC ?_
  show wpAny _ _ (call (.ref (He.ga X.K x)) []) _ _ _
  obtain ⟨bm, N, nm, qn, bs, hdct, sn, sub, ab, col, dd, k0, k1, k2, k3, k5, mN, hC, hN, hni, T2⟩ := exc_obj I.kIn T.q
  refine wpAny_call_exc_subT PySem.F.excBase_ValueError T2 hC hN hni (fun h' e hm => ?_) (Nat.zero_le _)
  exact L2N.mk_of I hm (raises_own T.exC T.tyC) h (I.hok.gone hm.new)
def wMkE0 (x : Str) : WE := fun ρ P => P (excDt ⟨x, []⟩) ρ
theorem d_mkE0 (T : XB X.K x) (hm : X.mg x = some (.ref (He.ga X.K x))) (hg : Gl X x := by rfl) (hdb : (x == ("__debug__" : Str)) = false := by decide) :
    PEd Z X (.Call (.Name x p) [] [] pos) (tEv (fun _ H Q => Q (.ref (He.ga X.K x)) none H)) (wMkE0 x) := by
  refine ⟨pe_ev (pmk_own0 T hm hg hdb), fun F G M σ H ρ R P hw Q k => ?_⟩
  intro a oe na hz hf
  refine k (excDt ⟨x, []⟩) ρ _ M _ (R.same (same_new na)) ?_ hw
  exact .exc (fs := []) (vs := []) rfl upd_same ⟨hz.1, hf⟩ (.inl ⟨rfl, hz.2.1⟩) .nil
end
/-! ### one's own list + a list: a new list of one's own -/
section
variable {Z : XC} {X : Cx} {b : Expr} {tb : TE} {wb : WE} {pos : Pos}
def wAddO (k : Nat) (we : WE) : WN := fun ρ P => (∃ m xs, ρ[k]? = some (some (.o m (.l xs)))) ∧ we ρ fun y ρ1 => ∃ m xs ys, ρ1[k]? = some (some (.o m (.l xs))) ∧ y = .list ys ∧ xs.length + ys.length ≤ sizeLine ∧ P (.l (xs ++ ys)) ρ1
theorem n_addO (k : Nat) {x : Str} {p : Pos} (hb : PEd Z X b tb wb) (hN : X.N[k]? = some x := by rfl) (hv : Vis X.env.scope x := by first | exact Or.inl rfl | exact Or.inr (Or.inl rfl) | exact Or.inr (Or.inr rfl)) (hd : (x == ("__debug__" : Str)) = false := by decide) (hcd : (x == ("__classdict__" : Str)) = false := by decide) :
    PNd Z X (.BinOp (.Name x p) .Add b pos) (tOp (rAddA X.kw) (tVar k) tb) (wAddO k wb) := by
  refine ⟨pe_op op_addA (pe_var hN hv hd hcd) hb.p, fun F G M σ H ρ R P hw Q kk => ?_⟩
  obtain ⟨⟨b0, xs0, e0⟩, hw⟩ := hw
  obtain ⟨p0, vs0, h1, h3, h4⟩ := R.r.lst e0
  refine ⟨.ref p0, h1, ?_⟩
  refine hb.i F G M σ H ρ R _ hw _ fun y ρ1 u M1 H1 R1 r1 ⟨bb, xs, ys, e1, ey, hl, q⟩ => ?_
  obtain ⟨p1, vs1, z1, z3, z4⟩ := R1.r.lst e1
  rw [h1] at z1
  cases z1
  subst ey
  cases r1 with
  | lst n2 e2 h2 => exact .inr (.inr (.inl ⟨_, _, _, _, rfl, rfl, z3, e2, by rw [z4.length, h2.length]; exact hl, fun p hp => kk _ ρ1 _ _ _ (R1.up (R1.r.new hp trivial (.l (.inr rfl) upd_same (RpAll.stp R1.ml (stp_new R1.r hp) _ _ (z4.append h2))))) q⟩))
end
end Dat
set_option Elab.async false
set_option linter.all false
set_option maxRecDepth 100000
set_option maxHeartbeats 4000000
namespace Pl
open PySem PySem.Spec PyProof.Rows L2 Dat
/-! ### the bag of digits -/
def Bag (n : Nat) (t : T) : Prop := ∃ a b c : Int, t = .l [.int a, .int b, .int c] ∧ 0 ≤ a ∧ 0 ≤ b ∧ b < 2305843009213693951 ∧ 0 ≤ c ∧ c ≤ n
theorem Bag.mono {n m : Nat} {t : T} (h : Bag n t) (l : n ≤ m) : Bag m t := by
  obtain ⟨a, b, c, h1, h2, h3, h4, h5, h6⟩ := h
  exact ⟨a, b, c, h1, h2, h3, h4, h5, by omega⟩
theorem f_mod {i j : Int} (h : 0 < j) : fMod (.int i) (.int j) = some (.int (i % j)) := by simp [fMod, intF, h]
theorem f_div {i j : Int} (h : 0 < j) (h2 : j < 1073741824) : fDiv (.int i) (.int j) = some (.int (i / j)) := by simp [fDiv, intF, h, h2]
theorem f_mulR {i j : Int} (h : -(2 ^ 64) < j) (h2 : j < 2 ^ 64) : fMul (.int i) (.int j) = some (.int (i * j)) := by
  have e : cMul i j = true := by
    unfold cMul
    rw [Bool.or_eq_true]
    exact .inr (decide_eq_true ⟨h, h2⟩)
  show (if cMul i j = true then some (PyData.int (i * j)) else none) = _
  rw [if_pos e]
theorem f_mulL {i j : Int} (h : -(2 ^ 64) < i) (h2 : i < 2 ^ 64) : fMul (.int i) (.int j) = some (.int (i * j)) := by
  have e : cMul i j = true := by
    unfold cMul
    rw [Bool.or_eq_true]
    exact .inl (decide_eq_true ⟨h, h2⟩)
  show (if cMul i j = true then some (PyData.int (i * j)) else none) = _
  rw [if_pos e]
theorem f_pow {i j : Int} (h : 0 ≤ j) (h2 : j ≤ 1000000) (h3 : i.natAbs < 2 ^ 64) : fPow (.int i) (.int j) = some (.int (i ^ j.toNat)) := by
  have e : decide (0 ≤ j ∧ j ≤ 1000000 ∧ i.natAbs < 2 ^ 64) = true := decide_eq_true ⟨h, h2, h3⟩
  show (if decide (0 ≤ j ∧ j ≤ 1000000 ∧ i.natAbs < 2 ^ 64) = true then some (PyData.int (i ^ j.toNat)) else none) = _
  rw [if_pos e]
theorem f_add {i j : Int} : fAdd (.int i) (.int j) = some (.int (i + j)) := rfl
theorem f_sub {i j : Int} : fSub (.int i) (.int j) = some (.int (i - j)) := rfl
theorem f_lt {i j : Int} : fLt (.int i) (.int j) = some (.bool (decide (i < j))) := rfl
theorem f_le {i j : Int} : fLe (.int i) (.int j) = some (.bool (decide (i ≤ j))) := rfl
theorem f_gt {i j : Int} : fGt (.int i) (.int j) = some (.bool (decide (j < i))) := rfl
theorem f_ge {i j : Int} : fGe (.int i) (.int j) = some (.bool (decide (j ≤ i))) := rfl
theorem f_addL {xs ys : List PyData} (h : xs.length + ys.length ≤ sizeLine) : fAdd (.list xs) (.list ys) = some (.list (xs ++ ys)) := by
  show (if xs.length + ys.length ≤ sizeLine then some (PyData.list (xs ++ ys)) else none) = _
  rw [if_pos h]
theorem f_addT {xs ys : List PyData} (h : xs.length + ys.length ≤ sizeLine) : fAdd (.tuple xs) (.tuple ys) = some (.tuple (xs ++ ys)) := by
  show (if xs.length + ys.length ≤ sizeLine then some (PyData.tuple (xs ++ ys)) else none) = _
  rw [if_pos h]
theorem f_lenL {xs : List PyData} : fLen (.list xs) = some (.int xs.length) := rfl
theorem f_lenT {xs : List PyData} : fLen (.tuple xs) = some (.int xs.length) := rfl
theorem sl16 : sizeLine = 16777216 := rfl
theorem feq_int {i j : Int} : fEq (.int i) (.int j) = some (.bool (i == j)) := rfl
theorem fne_int {i j : Int} : fNe (.int i) (.int j) = some (.bool (!(i == j))) := rfl
theorem feq_str {a b : Str} : fEq (.str a) (.str b) = some (.bool (a == b)) := rfl
theorem fne_str {a b : Str} : fNe (.str a) (.str b) = some (.bool (!(a == b))) := rfl
theorem feq_tup3 {a b c i j k : Int} : fEq (.tuple [.int a, .int b, .int c]) (.tuple [.int i, .int j, .int k]) = some (.bool (a == i && (b == j && (c == k && true)))) := rfl
theorem fne_tup3 {a b c i j k : Int} : fNe (.tuple [.int a, .int b, .int c]) (.tuple [.int i, .int j, .int k]) = some (.bool (!(a == i && (b == j && (c == k && true))))) := rfl
theorem at0 {x : PyData} {t : List PyData} : atI (x :: t) 0 = some x := by
  unfold atI ixN
  rw [if_pos (by decide), if_pos (by rw [List.length_cons]; omega)]
  rfl
theorem at1 {x y : PyData} {t : List PyData} : atI (x :: y :: t) 1 = some y := by
  unfold atI ixN
  rw [if_pos (by decide), if_pos (by rw [List.length_cons, List.length_cons]; omega)]
  rfl
theorem at2 {x y z : PyData} {t : List PyData} : atI (x :: y :: z :: t) 2 = some z := by
  unfold atI ixN
  rw [if_pos (by decide), if_pos (by rw [List.length_cons, List.length_cons, List.length_cons]; omega)]
  rfl
theorem at3 {x y z w : PyData} {t : List PyData} : atI (x :: y :: z :: w :: t) 3 = some w := by
  unfold atI ixN
  rw [if_pos (by decide), if_pos (by rw [List.length_cons, List.length_cons, List.length_cons, List.length_cons]; omega)]
  rfl
theorem at_get {xs : List PyData} {i : Int} {n : Nat} {x : PyData} (hi : i = n) (h : xs[n]? = some x) : atI xs i = some x := by
  have hl := (List.getElem?_eq_some_iff.mp h).1
  unfold atI ixN
  rw [if_pos (by omega), if_pos (by omega)]
  show xs[i.toNat]? = _
  rw [show i.toNat = n by omega, h]
theorem at_last {xs : List PyData} {x : PyData} : atI (xs ++ [x]) (-1) = some x := by
  unfold atI ixN
  rw [if_neg (by decide), if_pos (by rw [List.length_append, List.length_singleton]; omega)]
  show (xs ++ [x])[_]? = _
  rw [List.length_append, List.length_singleton, List.getElem?_append_right (by omega)]
  rw [show ((-1 : Int) + ((xs.length + 1 : Nat) : Int)).toNat - xs.length = 0 by omega]
  rfl
def wf__law_take : WFB := fun t xs P => ∃ (n : Nat) (m : Int), xs = [.int m] ∧ n < 1000000000 ∧ Bag n t ∧ 0 < m ∧ m < 1073741824 ∧ ∀ r t', 0 ≤ r → r < m → Bag (n + 1) t' → P (.int r) t'
def w__law_take : WS := (wSeq (wIfS (wTest (wBin fGt (wIxK 0 (wC (.int 0))) (wC (.int 0)))) (wSeq (wAsg (wBin fMod (wIxK 0 (wC (.int 0))) (wVar 1)) (wName 3))
    (wSeq (wPutI 0 0 (wBin fDiv (wIxK 0 (wC (.int 0))) (wVar 1)))
    (wRet (wVar 3)))) wNext)
    (wSeq (wPutI 0 2 (wBin fAdd (wIxK 0 (wC (.int 2))) (wC (.int 1))))
    (wSeq (wAsg (wBin fMod (wBin fPow (wBin fAdd (wIxK 0 (wC (.int 1))) (wBin fMul (wC (.int 1000003)) (wIxK 0 (wC (.int 2))))) (wC (.int 3))) (wC (.int 2305843009213693921))) (wName 2))
    (wSeq (wAsg (wBin fMod (wBin fPow (wBin fAdd (wVar 2) (wBin fMul (wC (.int 15485863)) (wIxK 0 (wC (.int 2))))) (wC (.int 2))) (wC (.int 2305843009213693951))) (wName 2))
    (wRet (wBin fMod (wBin fDiv (wVar 2) (wC (.int 1024))) (wVar 1)))))))
theorem wl__law_take (t : T) (xs : List PyData) (P : PyData → T → Prop) (h : wf__law_take t xs P) : xs.length + 1 = 2 := by
  obtain ⟨_, _, rfl, _⟩ := h
  rfl
theorem wp__law_take (t : T) (xs : List PyData) (P : PyData → T → Prop) (h : wf__law_take t xs P) : w__law_take (endsB P) (startBN 4 t xs) := by
  obtain ⟨n, m, rfl, hn, ⟨a, b, c, rfl, ha, hb, hb2, hc, hc2⟩, hm, hm2, hP⟩ := h
  have bag0 : ∀ a' c' : Int, 0 ≤ a' → 0 ≤ c' → c' ≤ (n + 1 : Nat) → Bag (n + 1) (.l [.int a', .int b, .int c']) := fun a' c' h1 h2 h3 => ⟨a', b, c', rfl, h1, hb, hb2, h2, h3⟩
  have e0 : (ixN 3 0) = some 0 := rfl
  have e1 : (ixN 3 1) = some 1 := rfl
  have e2 : (ixN 3 2) = some 2 := rfl
  show w__law_take (endsB P) [some (.o (.len 0) (.l [.int a, .int b, .int c])), some (.d (.int m)), none, none]
  unfold w__law_take
  simp only [wSeq, wAsg, wName, wBin, wVar, wC, wTest, wIfS, wIf, wNext, wRet, wCons, wNil, wCB, wIxK, wIxO, wPutI, wCallB, wPar, wLst, wTup, wUn, wL, wLstL, wRetL, wOr, wAnd, wNot, wOwn, wExt, wApp, wRev, wTake, wGive, wND, slotOf, wFreeze, wCall, wCallL, wCallK, wCallLK, wCallX, wCallXK, wiRng1, wiList, wiTup, wFor, wLcN, wkCl, wkApp, wYes, wgTup, wgCons, wgNil, wLend, lendD, lendS, wipeD, wPre, wWipe, forgetD, wParN, wSetN, wInS, wAddS, Md.may, T.data, Option.map_some, List.map_cons, List.map_nil, List.getElem?_cons_zero, List.getElem?_cons_succ, List.set_cons_zero, List.set_cons_succ, Option.some.injEq, Sl.d.injEq, Sl.o.injEq, T.l.injEq, T.s.injEq, T.d.injEq, PyData.int.injEq, PyData.bool.injEq, exists_eq_left, exists_eq_left', and_assoc, exists_and_left, exists_eq', and_true, true_and, if_true, List.length_cons, List.length_nil, Option.bind_some, List.cons_append, List.nil_append, List.append_nil, f1, f2, wNotV, f_gt, f_add, f_mod hm, f_div hm hm2, atI, e0, e1, e2]
  split
  · exact hP _ _ (Int.emod_nonneg _ (by omega)) (Int.emod_lt_of_pos _ hm) (bag0 _ _ (Int.ediv_nonneg ha (by omega)) hc (by omega))
  · have q1 := Int.emod_nonneg ((b + 1000003 * (c + 1)) ^ (3 : Int).toNat) (show (2305843009213693921 : Int) ≠ 0 by decide)
    have q2 := Int.emod_lt_of_pos ((b + 1000003 * (c + 1)) ^ (3 : Int).toNat) (show (0 : Int) < 2305843009213693921 by decide)
    refine ⟨_, f_mulL (by decide) (by decide), _, rfl, _, f_pow (by decide) (by decide) (by omega), _, f_mod (by decide), _, f_mulL (by decide) (by decide), _, rfl, _, f_pow (by decide) (by decide) (by omega), _, f_mod (by decide), _, f_div (by decide) (by decide), _, f_mod hm, ?_⟩
    exact hP _ _ (Int.emod_nonneg _ (by omega)) (Int.emod_lt_of_pos _ hm) (bag0 _ _ ha (by omega) (by omega))
theorem take_use {t : T} {P : PyData → T → Prop} (n : Nat) {m : Int} (hb : Bag n t) (hn : n < 1000000000) (h0 : 0 < m) (h1 : m < 1073741824) (k : ∀ r t', 0 ≤ r → r < m → Bag (n + 1) t' → P (.int r) t') : wf__law_take t [.int m] P := ⟨n, m, rfl, hn, hb, h0, h1, k⟩
theorem ix_pick (xs : List PyData) {i : Int} (h : 0 ≤ i) (h2 : i < xs.length) : ∃ z, z ∈ xs ∧ atI xs i = some z := by
  have hl : i.toNat < xs.length := by omega
  refine ⟨xs[i.toNat], List.getElem_mem hl, ?_⟩
  unfold atI ixN
  rw [if_pos h, if_pos h2]
  exact List.getElem?_eq_getElem hl
/-! ### the digits of one cell -/
def wf__law_bag : WFL := fun xs P => ∃ (ns : List Int) (at_ : Int), xs = [scrD ns, .int at_] ∧ 0 ≤ at_ ∧ at_ < 1000 ∧ ∀ t, Bag 0 t → P t
def w__law_bag : WS := (wSeq (wAsg (wIf (wTest (wBin fLt (wVar 1) (wCB (f1 fLen) (wCons (wVar 0) wNil)))) (wBin fIx (wVar 0) (wVar 1)) (wC (.int 0))) (wName 2))
    (wSeq (wAsg (wIf (wTest (wBin fGe (wCB (f1 fAbs) (wCons (wVar 2) wNil)) (wBin fPow (wC (.int 10)) (wC (.int 18))))) (wCB (f1 fAbs) (wCons (wVar 2) wNil)) (wC (.int 0))) (wName 3))
    (wRetL (wLstL (wCons (wVar 3) (wCons (wBin fMod (wBin fMul (wBin fAdd (wBin fAdd (wBin fMod (wVar 2) (wC (.int 2305843009213693951))) (wBin fMul (wC (.int 7919)) (wVar 1))) (wC (.int 3))) (wC (.int 6700417))) (wC (.int 2305843009213693951))) (wCons (wC (.int 0)) wNil)))))))
theorem wl__law_bag (xs : List PyData) (P : T → Prop) (h : wf__law_bag xs P) : xs.length = 2 := by
  obtain ⟨_, _, rfl, _⟩ := h
  rfl
theorem fix_scr {ns : List Int} {i : Int} (h : 0 ≤ i) (h2 : i < ns.length) : ∃ n, fIx (scrD ns) (.int i) = some (.int n) := by
  have hl : i.toNat < (ns.map fun n => (PyData.int n, PyData.none)).length := by rw [List.length_map]; omega
  refine ⟨ns[i.toNat]'(by omega), ?_⟩
  show ixD (ns.map fun n => (PyData.int n, PyData.none)) i = _
  rw [ixD_scr]
  unfold atI ixN
  rw [if_pos h, if_pos (by rw [List.length_map]; exact h2)]
  show (List.map _ ns)[i.toNat]?.map _ = _
  rw [List.getElem?_eq_getElem hl, List.getElem_map]
  rfl
theorem flen_scr {ns : List Int} : fLen (scrD ns) = some (.int ns.length) := by
  exact lenD_scr ns
def ab (i : Int) : Int := if i < 0 then -i else i
theorem ab_nn (i : Int) : 0 ≤ ab i := by unfold ab; split <;> omega
theorem f_abs {i : Int} : fAbs (.int i) = some (.int (ab i)) := rfl
theorem wp__law_bag (xs : List PyData) (P : T → Prop) (h : wf__law_bag xs P) : w__law_bag (endsL P) (startN 4 xs) := by
  obtain ⟨ns, i, rfl, h0, h1, hP⟩ := h
  have ep : fPow (.int 10) (.int 18) = some (.int (10 ^ (18 : Int).toNat)) := f_pow (by decide) (by decide) (by decide)
  have key : ∀ cell d : Int, 0 ≤ d → ∃ z, fMod (.int cell) (.int 2305843009213693951) = some z ∧ ∃ z1, fMul (.int 7919) (.int i) = some z1 ∧ ∃ z2, fAdd z z1 = some z2 ∧ ∃ z3, fAdd z2 (.int 3) = some z3 ∧ ∃ z4, fMul z3 (.int 6700417) = some z4 ∧ ∃ z5, fMod z4 (.int 2305843009213693951) = some z5 ∧ 0 + 1 + 1 + 1 ≤ sizeLine ∧ P (.l [.int d, z5, .int 0]) := fun cell d hd =>
    ⟨_, f_mod (by decide), _, f_mulL (by decide) (by decide), _, rfl, _, rfl, _, f_mulR (by decide) (by decide), _, f_mod (by decide), by decide, hP _ ⟨_, _, _, rfl, hd, Int.emod_nonneg _ (by decide), Int.emod_lt_of_pos _ (by decide), by decide, by decide⟩⟩
  show w__law_bag (endsL P) [some (.d (scrD ns)), some (.d (.int i)), none, none]
  unfold w__law_bag
  by_cases hl : i < ns.length
  · obtain ⟨cell, hc⟩ := fix_scr h0 hl
    simp only [wSeq, wAsg, wName, wBin, wVar, wC, wTest, wIfS, wIf, wNext, wRet, wCons, wNil, wCB, wIxK, wIxO, wPutI, wCallB, wPar, wLst, wTup, wUn, wL, wLstL, wRetL, wOr, wAnd, wNot, wOwn, wExt, wApp, wRev, wTake, wGive, wND, slotOf, wFreeze, wCall, wCallL, wCallK, wCallLK, wCallX, wCallXK, wiRng1, wiList, wiTup, wFor, wLcN, wkCl, wkApp, wYes, wgTup, wgCons, wgNil, wLend, lendD, lendS, wipeD, wPre, wWipe, forgetD, wParN, wSetN, wInS, wAddS, Md.may, T.data, Option.map_some, List.map_cons, List.map_nil, List.getElem?_cons_zero, List.getElem?_cons_succ, List.set_cons_zero, List.set_cons_succ, Option.some.injEq, Sl.d.injEq, Sl.o.injEq, T.l.injEq, T.s.injEq, T.d.injEq, PyData.int.injEq, PyData.bool.injEq, exists_eq_left, exists_eq_left', and_assoc, exists_and_left, exists_eq', and_true, true_and, if_true, List.length_cons, List.length_nil, Option.bind_some, List.cons_append, List.nil_append, List.append_nil, f1, f2, wNotV, flen_scr, f_lt, hl, decide_true, if_true, hc, f_abs, ep, f_ge]
    split
    · exact key cell _ (ab_nn cell)
    · exact key cell 0 (by decide)
  · simp only [wSeq, wAsg, wName, wBin, wVar, wC, wTest, wIfS, wIf, wNext, wRet, wCons, wNil, wCB, wIxK, wIxO, wPutI, wCallB, wPar, wLst, wTup, wUn, wL, wLstL, wRetL, wOr, wAnd, wNot, wOwn, wExt, wApp, wRev, wTake, wGive, wND, slotOf, wFreeze, wCall, wCallL, wCallK, wCallLK, wCallX, wCallXK, wiRng1, wiList, wiTup, wFor, wLcN, wkCl, wkApp, wYes, wgTup, wgCons, wgNil, wLend, lendD, lendS, wipeD, wPre, wWipe, forgetD, wParN, wSetN, wInS, wAddS, Md.may, T.data, Option.map_some, List.map_cons, List.map_nil, List.getElem?_cons_zero, List.getElem?_cons_succ, List.set_cons_zero, List.set_cons_succ, Option.some.injEq, Sl.d.injEq, Sl.o.injEq, T.l.injEq, T.s.injEq, T.d.injEq, PyData.int.injEq, PyData.bool.injEq, exists_eq_left, exists_eq_left', and_assoc, exists_and_left, exists_eq', and_true, true_and, if_true, List.length_cons, List.length_nil, Option.bind_some, List.cons_append, List.nil_append, List.append_nil, f1, f2, wNotV, flen_scr, f_lt, hl, decide_false, Bool.false_eq_true, if_false, f_abs, ep, f_ge]
    split
    · exact key 0 _ (ab_nn 0)
    · exact key 0 0 (by decide)
end Pl
set_option Elab.async false
set_option linter.all false
set_option maxRecDepth 100000
set_option maxHeartbeats 4000000
namespace Pl
open PySem PySem.Spec PyProof.Rows L2 Dat
/-! ### any value -/
def anyL : List PyData := [.none, .bool true, .bool false, .int 0, .int 1, .int 2, .int (-1), .int 3, .int (10 ^ 40), .str "", .str "x", .str "y", .str "z", .str "say", .str "X", .str "f", .list [], .tuple [], .tuple [.str "x"], .list [.str "x"],
  .tuple [.int 0, .int 0, .int 0], .tuple [.bool true, .int 0, .int 0], .tuple [.tuple [.str "say", .int 1]], .tuple [.str "+", .int 1, .str "x"], .str "ninelongs", .tuple [.str "end", .int 0]]
theorem any_repr : ∀ d ∈ anyL, ∃ s, fRepr d = some (.str s) := by
  have z : ∀ {d : PyData}, (d.showable && SeqAt.shaped d && decide (d.shown.length ≤ sizeLine)) = true → ∃ s, fRepr d = some (.str s) := fun {d} h => ⟨d.shown, by unfold fRepr; rw [if_pos h]⟩
  intro d hd
  simp only [anyL, List.mem_cons, List.not_mem_nil, or_false] at hd
  rcases hd with rfl | rfl | rfl | rfl | rfl | rfl | rfl | rfl | rfl | rfl | rfl | rfl | rfl | rfl | rfl | rfl | rfl | rfl | rfl | rfl | rfl | rfl | rfl | rfl | rfl | rfl
  all_goals exact z (by decide +kernel)
def wf__law_any : WFB := fun bag xs P => ∃ n : Nat, xs = [] ∧ n < 1000000000 ∧ Bag n bag ∧ ∀ d bag', d ∈ anyL → Bag (n + 1) bag' → P d bag'
def w__law_any : WS := (wSeq (wAsg (wLst (wCons (wC .none) (wCons (wC (.bool true)) (wCons (wC (.bool false)) (wCons (wC (.int 0)) (wCons (wC (.int 1)) (wCons (wC (.int 2)) (wCons (wUn fNeg (wC (.int 1))) (wCons (wC (.int 3)) (wCons (wBin fPow (wC (.int 10)) (wC (.int 40))) (wCons (wC (.str "")) (wCons (wC (.str "x")) (wCons (wC (.str "y")) (wCons (wC (.str "z")) (wCons (wC (.str "say")) (wCons (wC (.str "X")) (wCons (wC (.str "f")) (wCons (wLst wNil) (wCons (wTup wNil) (wCons (wTup (wCons (wC (.str "x")) wNil)) (wCons (wLst (wCons (wC (.str "x")) wNil)) wNil))))))))))))))))))))) (wName 1))
    (wRet (wBin fIx (wBin fAdd (wVar 1) (wLst (wCons (wTup (wCons (wC (.int 0)) (wCons (wC (.int 0)) (wCons (wC (.int 0)) wNil)))) (wCons (wTup (wCons (wC (.bool true)) (wCons (wC (.int 0)) (wCons (wC (.int 0)) wNil)))) (wCons (wTup (wCons (wTup (wCons (wC (.str "say")) (wCons (wC (.int 1)) wNil))) wNil)) (wCons (wTup (wCons (wC (.str "+")) (wCons (wC (.int 1)) (wCons (wC (.str "x")) wNil)))) (wCons (wC (.str "ninelongs")) (wCons (wTup (wCons (wC (.str "end")) (wCons (wC (.int 0)) wNil))) wNil)))))))) (wCallB 0 wf__law_take (wCons (wC (.int 26)) wNil)))))
theorem wl__law_any (t : T) (xs : List PyData) (P : PyData → T → Prop) (h : wf__law_any t xs P) : xs.length + 1 = 1 := by
  obtain ⟨_, rfl, _⟩ := h
  rfl
theorem wp__law_any (t : T) (xs : List PyData) (P : PyData → T → Prop) (h : wf__law_any t xs P) : w__law_any (endsB P) (startBN 2 t xs) := by
  obtain ⟨n, rfl, hn, hB, hP⟩ := h
  show w__law_any (endsB P) [some (.o (.len 0) t), none]
  unfold w__law_any
  have e10 : fPow (.int 10) (.int 40) = some (.int (10 ^ 40)) := rfl
  simp only [wSeq, wAsg, wName, wBin, wVar, wC, wTest, wIfS, wIf, wNext, wRet, wCons, wNil, wCB, wIxK, wIxO, wPutI, wCallB, wPar, wLst, wTup, wUn, wL, wLstL, wRetL, wOr, wAnd, wNot, wOwn, wExt, wApp, wRev, wTake, wGive, wND, slotOf, wFreeze, wCall, wCallL, wCallK, wCallLK, wCallX, wCallXK, wiRng1, wiList, wiTup, wFor, wLcN, wkCl, wkApp, wYes, wgTup, wgCons, wgNil, wLend, lendD, lendS, wipeD, wPre, wWipe, forgetD, wParN, wSetN, wInS, wAddS, Md.may, T.data, Option.map_some, List.map_cons, List.map_nil, List.getElem?_cons_zero, List.getElem?_cons_succ, List.set_cons_zero, List.set_cons_succ, Option.some.injEq, Sl.d.injEq, Sl.o.injEq, T.l.injEq, T.s.injEq, T.d.injEq, PyData.int.injEq, PyData.bool.injEq, exists_eq_left, exists_eq_left', and_assoc, exists_and_left, exists_eq', and_true, true_and, if_true, List.length_cons, List.length_nil, Option.bind_some, List.cons_append, List.nil_append, List.append_nil, f1, f2, wNotV, fNeg, e10]
  repeat refine ⟨by decide, ?_⟩
  refine ⟨_, f_addL (by decide), take_use n hB hn (by decide) (by decide) fun r t' r0 r1 hB' => ?_⟩
  obtain ⟨z, hz, e⟩ := ix_pick anyL r0 (by exact r1)
  exact ⟨z, e, hP z t' hz hB'⟩
theorem any_use {t : T} {P : PyData → T → Prop} (n : Nat) (hB : Bag n t) (hn : n < 1000000000) (k : ∀ d bag', d ∈ anyL → Bag (n + 1) bag' → P d bag') : wf__law_any t [] P := ⟨n, rfl, hn, hB, k⟩
/-! ### the error's kind -/
def clsL : List Str := ["NoBase", "NoText", "NoRows", "NoStand", "NoName", "NoNumber", "NoHistory", "NoCommand", "NoPart", "NoRun", "NoBranch", "NoCell", "NoDepth", "NoAnswer", "NotAsked", "Over"]
def wf__law_kinds : WF := fun xs P => ∃ (c : Str) (fs : List (Str × PyData)), xs = [excDt ⟨c, fs⟩] ∧ c ∈ clsL ∧ P (.str c)
def tb_NoBase : List (Str × Bool) := [("NoBase", true), ("NoText", false), ("NoRows", false), ("NoStand", false), ("NoName", false), ("NoNumber", false), ("NoHistory", false), ("NoCommand", false), ("NoPart", false), ("NoRun", false), ("NoBranch", false), ("NoCell", false), ("NoDepth", false), ("NoAnswer", false), ("NotAsked", false), ("Over", false)]
def tb_NoText : List (Str × Bool) := [("NoBase", false), ("NoText", true), ("NoRows", false), ("NoStand", false), ("NoName", false), ("NoNumber", false), ("NoHistory", false), ("NoCommand", false), ("NoPart", false), ("NoRun", false), ("NoBranch", false), ("NoCell", false), ("NoDepth", false), ("NoAnswer", false), ("NotAsked", false), ("Over", false)]
def tb_NoRows : List (Str × Bool) := [("NoBase", false), ("NoText", false), ("NoRows", true), ("NoStand", false), ("NoName", false), ("NoNumber", false), ("NoHistory", false), ("NoCommand", false), ("NoPart", false), ("NoRun", false), ("NoBranch", false), ("NoCell", false), ("NoDepth", false), ("NoAnswer", false), ("NotAsked", false), ("Over", false)]
def tb_NoStand : List (Str × Bool) := [("NoBase", false), ("NoText", false), ("NoRows", false), ("NoStand", true), ("NoName", false), ("NoNumber", false), ("NoHistory", false), ("NoCommand", false), ("NoPart", false), ("NoRun", false), ("NoBranch", false), ("NoCell", false), ("NoDepth", false), ("NoAnswer", false), ("NotAsked", false), ("Over", false)]
def tb_NoName : List (Str × Bool) := [("NoBase", false), ("NoText", false), ("NoRows", false), ("NoStand", false), ("NoName", true), ("NoNumber", false), ("NoHistory", false), ("NoCommand", false), ("NoPart", false), ("NoRun", false), ("NoBranch", false), ("NoCell", false), ("NoDepth", false), ("NoAnswer", false), ("NotAsked", false), ("Over", false)]
def tb_NoNumber : List (Str × Bool) := [("NoBase", false), ("NoText", false), ("NoRows", false), ("NoStand", false), ("NoName", false), ("NoNumber", true), ("NoHistory", false), ("NoCommand", false), ("NoPart", false), ("NoRun", false), ("NoBranch", false), ("NoCell", false), ("NoDepth", false), ("NoAnswer", false), ("NotAsked", false), ("Over", false)]
def tb_NoHistory : List (Str × Bool) := [("NoBase", false), ("NoText", false), ("NoRows", false), ("NoStand", false), ("NoName", false), ("NoNumber", false), ("NoHistory", true), ("NoCommand", false), ("NoPart", false), ("NoRun", false), ("NoBranch", false), ("NoCell", false), ("NoDepth", false), ("NoAnswer", false), ("NotAsked", false), ("Over", false)]
def tb_NoCommand : List (Str × Bool) := [("NoBase", false), ("NoText", false), ("NoRows", false), ("NoStand", false), ("NoName", false), ("NoNumber", false), ("NoHistory", false), ("NoCommand", true), ("NoPart", false), ("NoRun", false), ("NoBranch", false), ("NoCell", false), ("NoDepth", false), ("NoAnswer", false), ("NotAsked", false), ("Over", false)]
def tb_NoPart : List (Str × Bool) := [("NoBase", false), ("NoText", false), ("NoRows", false), ("NoStand", false), ("NoName", false), ("NoNumber", false), ("NoHistory", false), ("NoCommand", false), ("NoPart", true), ("NoRun", false), ("NoBranch", false), ("NoCell", false), ("NoDepth", false), ("NoAnswer", false), ("NotAsked", false), ("Over", false)]
def tb_NoRun : List (Str × Bool) := [("NoBase", false), ("NoText", false), ("NoRows", false), ("NoStand", false), ("NoName", false), ("NoNumber", false), ("NoHistory", false), ("NoCommand", false), ("NoPart", false), ("NoRun", true), ("NoBranch", false), ("NoCell", false), ("NoDepth", false), ("NoAnswer", false), ("NotAsked", false), ("Over", false)]
def tb_NoBranch : List (Str × Bool) := [("NoBase", false), ("NoText", false), ("NoRows", false), ("NoStand", false), ("NoName", false), ("NoNumber", false), ("NoHistory", false), ("NoCommand", false), ("NoPart", false), ("NoRun", false), ("NoBranch", true), ("NoCell", false), ("NoDepth", false), ("NoAnswer", false), ("NotAsked", false), ("Over", false)]
def tb_NoCell : List (Str × Bool) := [("NoBase", false), ("NoText", false), ("NoRows", false), ("NoStand", false), ("NoName", false), ("NoNumber", false), ("NoHistory", false), ("NoCommand", false), ("NoPart", false), ("NoRun", false), ("NoBranch", false), ("NoCell", true), ("NoDepth", false), ("NoAnswer", false), ("NotAsked", false), ("Over", false)]
def tb_NoDepth : List (Str × Bool) := [("NoBase", false), ("NoText", false), ("NoRows", false), ("NoStand", false), ("NoName", false), ("NoNumber", false), ("NoHistory", false), ("NoCommand", false), ("NoPart", false), ("NoRun", false), ("NoBranch", false), ("NoCell", false), ("NoDepth", true), ("NoAnswer", false), ("NotAsked", false), ("Over", false)]
def tb_NoAnswer : List (Str × Bool) := [("NoBase", false), ("NoText", false), ("NoRows", false), ("NoStand", false), ("NoName", false), ("NoNumber", false), ("NoHistory", false), ("NoCommand", false), ("NoPart", false), ("NoRun", false), ("NoBranch", false), ("NoCell", false), ("NoDepth", false), ("NoAnswer", true), ("NotAsked", false), ("Over", false)]
def tb_NotAsked : List (Str × Bool) := [("NoBase", false), ("NoText", false), ("NoRows", false), ("NoStand", false), ("NoName", false), ("NoNumber", false), ("NoHistory", false), ("NoCommand", false), ("NoPart", false), ("NoRun", false), ("NoBranch", false), ("NoCell", false), ("NoDepth", false), ("NoAnswer", false), ("NotAsked", true), ("Over", false)]
def tb_Over : List (Str × Bool) := [("NoBase", false), ("NoText", false), ("NoRows", false), ("NoStand", false), ("NoName", false), ("NoNumber", false), ("NoHistory", false), ("NoCommand", false), ("NoPart", false), ("NoRun", false), ("NoBranch", false), ("NoCell", false), ("NoDepth", false), ("NoAnswer", false), ("NotAsked", false), ("Over", true)]
def tb_ValueError : List (Str × Bool) := [("NoBase", true), ("NoText", true), ("NoRows", true), ("NoStand", true), ("NoName", true), ("NoNumber", true), ("NoHistory", true), ("NoCommand", true), ("NoPart", false), ("NoRun", false), ("NoBranch", false), ("NoCell", false), ("NoDepth", false), ("NoAnswer", false), ("NotAsked", false), ("Over", false)]
def tb_KeyError : List (Str × Bool) := [("NoBase", false), ("NoText", false), ("NoRows", false), ("NoStand", false), ("NoName", false), ("NoNumber", false), ("NoHistory", false), ("NoCommand", false), ("NoPart", true), ("NoRun", true), ("NoBranch", false), ("NoCell", false), ("NoDepth", false), ("NoAnswer", false), ("NotAsked", false), ("Over", false)]
def tb_IndexError : List (Str × Bool) := [("NoBase", false), ("NoText", false), ("NoRows", false), ("NoStand", false), ("NoName", false), ("NoNumber", false), ("NoHistory", false), ("NoCommand", false), ("NoPart", false), ("NoRun", false), ("NoBranch", true), ("NoCell", true), ("NoDepth", true), ("NoAnswer", false), ("NotAsked", false), ("Over", false)]
def tb_LookupError : List (Str × Bool) := [("NoBase", false), ("NoText", false), ("NoRows", false), ("NoStand", false), ("NoName", false), ("NoNumber", false), ("NoHistory", false), ("NoCommand", false), ("NoPart", true), ("NoRun", true), ("NoBranch", true), ("NoCell", true), ("NoDepth", true), ("NoAnswer", true), ("NotAsked", false), ("Over", false)]
def tb_RuntimeError : List (Str × Bool) := [("NoBase", false), ("NoText", false), ("NoRows", false), ("NoStand", false), ("NoName", false), ("NoNumber", false), ("NoHistory", false), ("NoCommand", false), ("NoPart", false), ("NoRun", false), ("NoBranch", false), ("NoCell", false), ("NoDepth", false), ("NoAnswer", false), ("NotAsked", true), ("Over", true)]
def w__law_kinds : WS := (wSeq (wAsg (wLst (wCons (wUn (fIsE tb_NoBase) (wVar 0)) (wCons (wUn (fIsE tb_NoText) (wVar 0)) (wCons (wUn (fIsE tb_NoRows) (wVar 0)) (wCons (wUn (fIsE tb_NoStand) (wVar 0)) wNil))))) (wName 1))
    (wSeq (wAsg (wBin fAdd (wVar 1) (wLst (wCons (wUn (fIsE tb_NoName) (wVar 0)) (wCons (wUn (fIsE tb_NoNumber) (wVar 0)) (wCons (wUn (fIsE tb_NoHistory) (wVar 0)) wNil))))) (wName 1))
    (wSeq (wAsg (wBin fAdd (wVar 1) (wLst (wCons (wUn (fIsE tb_NoCommand) (wVar 0)) (wCons (wUn (fIsE tb_NoPart) (wVar 0)) (wCons (wUn (fIsE tb_NoRun) (wVar 0)) wNil))))) (wName 1))
    (wSeq (wAsg (wBin fAdd (wVar 1) (wLst (wCons (wUn (fIsE tb_NoBranch) (wVar 0)) (wCons (wUn (fIsE tb_NoCell) (wVar 0)) (wCons (wUn (fIsE tb_NoDepth) (wVar 0)) wNil))))) (wName 1))
    (wSeq (wAsg (wBin fAdd (wVar 1) (wLst (wCons (wUn (fIsE tb_NoAnswer) (wVar 0)) (wCons (wUn (fIsE tb_NotAsked) (wVar 0)) (wCons (wUn (fIsE tb_Over) (wVar 0)) wNil))))) (wName 1))
    (wSeq (wAsg (wLst (wCons (wC (.str "NoBase")) (wCons (wC (.str "NoText")) (wCons (wC (.str "NoRows")) (wCons (wC (.str "NoStand")) (wCons (wC (.str "NoName")) (wCons (wC (.str "NoNumber")) (wCons (wC (.str "NoHistory")) (wCons (wC (.str "NoCommand")) (wCons (wC (.str "NoPart")) wNil)))))))))) (wName 2))
    (wSeq (wAsg (wBin fAdd (wVar 2) (wLst (wCons (wC (.str "NoRun")) (wCons (wC (.str "NoBranch")) (wCons (wC (.str "NoCell")) (wCons (wC (.str "NoDepth")) (wCons (wC (.str "NoAnswer")) (wCons (wC (.str "NotAsked")) (wCons (wC (.str "Over")) wNil))))))))) (wName 2))
    (wSeq (wAsg (wLst (wCons (wUn (fIsE tb_ValueError) (wVar 0)) (wCons (wUn (fIsE tb_KeyError) (wVar 0)) (wCons (wUn (fIsE tb_IndexError) (wVar 0)) wNil)))) (wName 3))
    (wSeq (wAsg (wBin fAdd (wVar 3) (wLst (wCons (wUn (fIsE tb_LookupError) (wVar 0)) (wCons (wUn (fIsE tb_RuntimeError) (wVar 0)) wNil)))) (wName 3))
    (wSeq (wIfS (wTest (wBin fNe (wM2 fCnt (wVar 1) (wC (.bool true))) (wC (.int 1)))) (wRet (wC (.str "other"))) wNext)
    (wSeq (wAsg (wM2 fIdx (wVar 1) (wC (.bool true))) (wName 4))
    (wSeq (wAsg (wBin fAdd (wBin fAdd (wBin fAdd (wBin fRep (wLst (wCons (wC (.str "10000")) wNil)) (wC (.int 8))) (wBin fRep (wLst (wCons (wC (.str "01010")) wNil)) (wC (.int 2)))) (wBin fRep (wLst (wCons (wC (.str "00110")) wNil)) (wC (.int 3)))) (wLst (wCons (wC (.str "00010")) (wCons (wC (.str "00001")) (wCons (wC (.str "00001")) wNil))))) (wName 5))
    (wRet (wIf (wTest (wBin fEq (wVar 3) (wL (wLcN (wiStr (wBin fIx (wVar 5) (wVar 4))) (wName 6) wYes (wkApp (wBin fEq (wVar 6) (wC (.str "1")))) [6])))) (wBin fIx (wVar 2) (wVar 4)) (wC (.str "other"))))))))))))))))
theorem wl__law_kinds (xs : List PyData) (P : PyData → Prop) (h : wf__law_kinds xs P) : xs.length = 1 := by
  obtain ⟨_, _, rfl, _⟩ := h
  rfl
theorem kinds_NoBase {fs : List (Str × PyData)} {P : PyData → Prop} (hP : P (.str "NoBase")) : w__law_kinds (endsP P) [some (.d (excDt ⟨"NoBase", fs⟩)), none, none, none, none, none, none] := by
  have i0 : fIsE tb_NoBase (excDt ⟨"NoBase", fs⟩) = some (.bool true) := rfl
  have i1 : fIsE tb_NoText (excDt ⟨"NoBase", fs⟩) = some (.bool false) := rfl
  have i2 : fIsE tb_NoRows (excDt ⟨"NoBase", fs⟩) = some (.bool false) := rfl
  have i3 : fIsE tb_NoStand (excDt ⟨"NoBase", fs⟩) = some (.bool false) := rfl
  have i4 : fIsE tb_NoName (excDt ⟨"NoBase", fs⟩) = some (.bool false) := rfl
  have i5 : fIsE tb_NoNumber (excDt ⟨"NoBase", fs⟩) = some (.bool false) := rfl
  have i6 : fIsE tb_NoHistory (excDt ⟨"NoBase", fs⟩) = some (.bool false) := rfl
  have i7 : fIsE tb_NoCommand (excDt ⟨"NoBase", fs⟩) = some (.bool false) := rfl
  have i8 : fIsE tb_NoPart (excDt ⟨"NoBase", fs⟩) = some (.bool false) := rfl
  have i9 : fIsE tb_NoRun (excDt ⟨"NoBase", fs⟩) = some (.bool false) := rfl
  have i10 : fIsE tb_NoBranch (excDt ⟨"NoBase", fs⟩) = some (.bool false) := rfl
  have i11 : fIsE tb_NoCell (excDt ⟨"NoBase", fs⟩) = some (.bool false) := rfl
  have i12 : fIsE tb_NoDepth (excDt ⟨"NoBase", fs⟩) = some (.bool false) := rfl
  have i13 : fIsE tb_NoAnswer (excDt ⟨"NoBase", fs⟩) = some (.bool false) := rfl
  have i14 : fIsE tb_NotAsked (excDt ⟨"NoBase", fs⟩) = some (.bool false) := rfl
  have i15 : fIsE tb_Over (excDt ⟨"NoBase", fs⟩) = some (.bool false) := rfl
  have j0 : fIsE tb_ValueError (excDt ⟨"NoBase", fs⟩) = some (.bool true) := rfl
  have j1 : fIsE tb_KeyError (excDt ⟨"NoBase", fs⟩) = some (.bool false) := rfl
  have j2 : fIsE tb_IndexError (excDt ⟨"NoBase", fs⟩) = some (.bool false) := rfl
  have j3 : fIsE tb_LookupError (excDt ⟨"NoBase", fs⟩) = some (.bool false) := rfl
  have j4 : fIsE tb_RuntimeError (excDt ⟨"NoBase", fs⟩) = some (.bool false) := rfl
  generalize excDt ⟨"NoBase", fs⟩ = dx at *
  have cn : fCnt (.list [.bool true, .bool false, .bool false, .bool false, .bool false, .bool false, .bool false, .bool false, .bool false, .bool false, .bool false, .bool false, .bool false, .bool false, .bool false, .bool false]) (.bool true) = some (.int 1) := by kernel_rfl
  have ix : fIdx (.list [.bool true, .bool false, .bool false, .bool false, .bool false, .bool false, .bool false, .bool false, .bool false, .bool false, .bool false, .bool false, .bool false, .bool false, .bool false, .bool false]) (.bool true) = some (.int 0) := by kernel_rfl
  have ne1 : fNe (.int 1) (.int 1) = some (.bool false) := rfl
  have r1 : fRep (.list [.str "10000"]) (.int 8) = some (.list [.str "10000", .str "10000", .str "10000", .str "10000", .str "10000", .str "10000", .str "10000", .str "10000"]) := by kernel_rfl
  have r2 : fRep (.list [.str "01010"]) (.int 2) = some (.list [.str "01010", .str "01010"]) := by kernel_rfl
  have r3 : fRep (.list [.str "00110"]) (.int 3) = some (.list [.str "00110", .str "00110", .str "00110"]) := by kernel_rfl
  have xd : fIx (.list [.str "10000", .str "10000", .str "10000", .str "10000", .str "10000", .str "10000", .str "10000", .str "10000", .str "01010", .str "01010", .str "00110", .str "00110", .str "00110", .str "00010", .str "00001", .str "00001"]) (.int 0) = some (.str "10000") := by kernel_rfl
  have xn : fIx (.list [.str "NoBase", .str "NoText", .str "NoRows", .str "NoStand", .str "NoName", .str "NoNumber", .str "NoHistory", .str "NoCommand", .str "NoPart", .str "NoRun", .str "NoBranch", .str "NoCell", .str "NoDepth", .str "NoAnswer", .str "NotAsked", .str "Over"]) (.int 0) = some (.str "NoBase") := by kernel_rfl
  have ch : chars "10000" = [.str "1", .str "0", .str "0", .str "0", .str "0"] := rfl
  have as0 : ascC "10000" = true := by decide +kernel
  have e0 : fEq (.str "0") (.str "1") = some (.bool false) := rfl
  have e1 : fEq (.str "1") (.str "1") = some (.bool true) := rfl
  have el : fEq (.list [.bool true, .bool false, .bool false, .bool false, .bool false]) (.list [.bool true, .bool false, .bool false, .bool false, .bool false]) = some (.bool true) := by kernel_rfl
  unfold w__law_kinds
  simp only [wSeq, wAsg, wName, wBin, wVar, wC, wTest, wIfS, wIf, wNext, wRet, wCons, wNil, wCB, wIxK, wIxO, wPutI, wCallB, wPar, wLst, wTup, wUn, wL, wLstL, wRetL, wOr, wAnd, wNot, wOwn, wExt, wApp, wRev, wTake, wGive, wND, slotOf, wFreeze, wCall, wCallL, wCallK, wCallLK, wCallX, wCallXK, wiRng1, wiList, wiTup, wFor, wLcN, wkCl, wkApp, wYes, wgTup, wgCons, wgNil, wLend, lendD, lendS, wipeD, wPre, wWipe, forgetD, wParN, wSetN, wInS, wAddS, Md.may, T.data, Option.map_some, List.map_cons, List.map_nil, List.getElem?_cons_zero, List.getElem?_cons_succ, List.set_cons_zero, List.set_cons_succ, Option.some.injEq, Sl.d.injEq, Sl.o.injEq, T.l.injEq, T.s.injEq, T.d.injEq, PyData.int.injEq, PyData.bool.injEq, exists_eq_left, exists_eq_left', and_assoc, exists_and_left, exists_eq', and_true, true_and, if_true, List.length_cons, List.length_nil, Option.bind_some, List.cons_append, List.nil_append, List.append_nil, f1, f2, wNotV, i0, i1, i2, i3, i4, i5, i6, i7, i8, i9, i10, i11, i12, i13, i14, i15, j0, j1, j2, j3, j4]
  repeat (first | refine ⟨by decide, ?_⟩ | refine ⟨_, f_addL (by decide), ?_⟩)
  simp only [wM2, wSeq, wAsg, wName, wBin, wVar, wC, wTest, wIfS, wIf, wNext, wRet, wCons, wNil, wCB, wIxK, wIxO, wPutI, wCallB, wPar, wLst, wTup, wUn, wL, wLstL, wRetL, wOr, wAnd, wNot, wOwn, wExt, wApp, wRev, wTake, wGive, wND, slotOf, wFreeze, wCall, wCallL, wCallK, wCallLK, wCallX, wCallXK, wiRng1, wiList, wiTup, wFor, wLcN, wkCl, wkApp, wYes, wgTup, wgCons, wgNil, wLend, lendD, lendS, wipeD, wPre, wWipe, forgetD, wParN, wSetN, wInS, wAddS, Md.may, T.data, Option.map_some, List.map_cons, List.map_nil, List.getElem?_cons_zero, List.getElem?_cons_succ, List.set_cons_zero, List.set_cons_succ, Option.some.injEq, Sl.d.injEq, Sl.o.injEq, T.l.injEq, T.s.injEq, T.d.injEq, PyData.int.injEq, PyData.bool.injEq, exists_eq_left, exists_eq_left', and_assoc, exists_and_left, exists_eq', and_true, true_and, if_true, List.length_cons, List.length_nil, Option.bind_some, List.cons_append, List.nil_append, List.append_nil, f1, f2, wNotV, List.cons_append, List.nil_append, cn, ne1, ix, exists_eq_left', Bool.false_eq_true, if_false, PyData.list.injEq, exists_eq']
  try simp only [r1, r2, r3, wSeq, wAsg, wName, wBin, wVar, wC, wTest, wIfS, wIf, wNext, wRet, wCons, wNil, wCB, wIxK, wIxO, wPutI, wCallB, wPar, wLst, wTup, wUn, wL, wLstL, wRetL, wOr, wAnd, wNot, wOwn, wExt, wApp, wRev, wTake, wGive, wND, slotOf, wFreeze, wCall, wCallL, wCallK, wCallLK, wCallX, wCallXK, wiRng1, wiList, wiTup, wFor, wLcN, wkCl, wkApp, wYes, wgTup, wgCons, wgNil, wLend, lendD, lendS, wipeD, wPre, wWipe, forgetD, wParN, wSetN, wInS, wAddS, Md.may, T.data, Option.map_some, List.map_cons, List.map_nil, List.getElem?_cons_zero, List.getElem?_cons_succ, List.set_cons_zero, List.set_cons_succ, Option.some.injEq, Sl.d.injEq, Sl.o.injEq, T.l.injEq, T.s.injEq, T.d.injEq, PyData.int.injEq, PyData.bool.injEq, exists_eq_left, exists_eq_left', and_assoc, exists_and_left, exists_eq', and_true, true_and, if_true, List.length_cons, List.length_nil, Option.bind_some, List.cons_append, List.nil_append, List.append_nil, f1, f2, wNotV, List.cons_append, List.nil_append, PyData.list.injEq]
  repeat (first | refine ⟨by decide, ?_⟩ | refine ⟨_, f_addL (by decide), ?_⟩)
  simp only [wiStr, wSeq, wAsg, wName, wBin, wVar, wC, wTest, wIfS, wIf, wNext, wRet, wCons, wNil, wCB, wIxK, wIxO, wPutI, wCallB, wPar, wLst, wTup, wUn, wL, wLstL, wRetL, wOr, wAnd, wNot, wOwn, wExt, wApp, wRev, wTake, wGive, wND, slotOf, wFreeze, wCall, wCallL, wCallK, wCallLK, wCallX, wCallXK, wiRng1, wiList, wiTup, wFor, wLcN, wkCl, wkApp, wYes, wgTup, wgCons, wgNil, wLend, lendD, lendS, wipeD, wPre, wWipe, forgetD, wParN, wSetN, wInS, wAddS, Md.may, T.data, Option.map_some, List.map_cons, List.map_nil, List.getElem?_cons_zero, List.getElem?_cons_succ, List.set_cons_zero, List.set_cons_succ, Option.some.injEq, Sl.d.injEq, Sl.o.injEq, T.l.injEq, T.s.injEq, T.d.injEq, PyData.int.injEq, PyData.bool.injEq, exists_eq_left, exists_eq_left', and_assoc, exists_and_left, exists_eq', and_true, true_and, if_true, List.length_cons, List.length_nil, Option.bind_some, List.cons_append, List.nil_append, List.append_nil, f1, f2, wNotV, PyData.tuple.injEq, PyData.list.injEq, PyData.str.injEq, List.cons.injEq, exists_eq_right_right, exists_eq_right, wgStar, wgLst, wSl, woNone, woSome, wOrV, wAndV, wChain, wDrop, wDisp, wDispG, wVals, lookD, xd, as0, ch, clRec, e0, e1, el, xn]
  repeat (first | exact hP | refine ⟨by decide, ?_⟩)
theorem kinds_NoText {fs : List (Str × PyData)} {P : PyData → Prop} (hP : P (.str "NoText")) : w__law_kinds (endsP P) [some (.d (excDt ⟨"NoText", fs⟩)), none, none, none, none, none, none] := by
  have i0 : fIsE tb_NoBase (excDt ⟨"NoText", fs⟩) = some (.bool false) := rfl
  have i1 : fIsE tb_NoText (excDt ⟨"NoText", fs⟩) = some (.bool true) := rfl
  have i2 : fIsE tb_NoRows (excDt ⟨"NoText", fs⟩) = some (.bool false) := rfl
  have i3 : fIsE tb_NoStand (excDt ⟨"NoText", fs⟩) = some (.bool false) := rfl
  have i4 : fIsE tb_NoName (excDt ⟨"NoText", fs⟩) = some (.bool false) := rfl
  have i5 : fIsE tb_NoNumber (excDt ⟨"NoText", fs⟩) = some (.bool false) := rfl
  have i6 : fIsE tb_NoHistory (excDt ⟨"NoText", fs⟩) = some (.bool false) := rfl
  have i7 : fIsE tb_NoCommand (excDt ⟨"NoText", fs⟩) = some (.bool false) := rfl
  have i8 : fIsE tb_NoPart (excDt ⟨"NoText", fs⟩) = some (.bool false) := rfl
  have i9 : fIsE tb_NoRun (excDt ⟨"NoText", fs⟩) = some (.bool false) := rfl
  have i10 : fIsE tb_NoBranch (excDt ⟨"NoText", fs⟩) = some (.bool false) := rfl
  have i11 : fIsE tb_NoCell (excDt ⟨"NoText", fs⟩) = some (.bool false) := rfl
  have i12 : fIsE tb_NoDepth (excDt ⟨"NoText", fs⟩) = some (.bool false) := rfl
  have i13 : fIsE tb_NoAnswer (excDt ⟨"NoText", fs⟩) = some (.bool false) := rfl
  have i14 : fIsE tb_NotAsked (excDt ⟨"NoText", fs⟩) = some (.bool false) := rfl
  have i15 : fIsE tb_Over (excDt ⟨"NoText", fs⟩) = some (.bool false) := rfl
  have j0 : fIsE tb_ValueError (excDt ⟨"NoText", fs⟩) = some (.bool true) := rfl
  have j1 : fIsE tb_KeyError (excDt ⟨"NoText", fs⟩) = some (.bool false) := rfl
  have j2 : fIsE tb_IndexError (excDt ⟨"NoText", fs⟩) = some (.bool false) := rfl
  have j3 : fIsE tb_LookupError (excDt ⟨"NoText", fs⟩) = some (.bool false) := rfl
  have j4 : fIsE tb_RuntimeError (excDt ⟨"NoText", fs⟩) = some (.bool false) := rfl
  generalize excDt ⟨"NoText", fs⟩ = dx at *
  have cn : fCnt (.list [.bool false, .bool true, .bool false, .bool false, .bool false, .bool false, .bool false, .bool false, .bool false, .bool false, .bool false, .bool false, .bool false, .bool false, .bool false, .bool false]) (.bool true) = some (.int 1) := by kernel_rfl
  have ix : fIdx (.list [.bool false, .bool true, .bool false, .bool false, .bool false, .bool false, .bool false, .bool false, .bool false, .bool false, .bool false, .bool false, .bool false, .bool false, .bool false, .bool false]) (.bool true) = some (.int 1) := by kernel_rfl
  have ne1 : fNe (.int 1) (.int 1) = some (.bool false) := rfl
  have r1 : fRep (.list [.str "10000"]) (.int 8) = some (.list [.str "10000", .str "10000", .str "10000", .str "10000", .str "10000", .str "10000", .str "10000", .str "10000"]) := by kernel_rfl
  have r2 : fRep (.list [.str "01010"]) (.int 2) = some (.list [.str "01010", .str "01010"]) := by kernel_rfl
  have r3 : fRep (.list [.str "00110"]) (.int 3) = some (.list [.str "00110", .str "00110", .str "00110"]) := by kernel_rfl
  have xd : fIx (.list [.str "10000", .str "10000", .str "10000", .str "10000", .str "10000", .str "10000", .str "10000", .str "10000", .str "01010", .str "01010", .str "00110", .str "00110", .str "00110", .str "00010", .str "00001", .str "00001"]) (.int 1) = some (.str "10000") := by kernel_rfl
  have xn : fIx (.list [.str "NoBase", .str "NoText", .str "NoRows", .str "NoStand", .str "NoName", .str "NoNumber", .str "NoHistory", .str "NoCommand", .str "NoPart", .str "NoRun", .str "NoBranch", .str "NoCell", .str "NoDepth", .str "NoAnswer", .str "NotAsked", .str "Over"]) (.int 1) = some (.str "NoText") := by kernel_rfl
  have ch : chars "10000" = [.str "1", .str "0", .str "0", .str "0", .str "0"] := rfl
  have as0 : ascC "10000" = true := by decide +kernel
  have e0 : fEq (.str "0") (.str "1") = some (.bool false) := rfl
  have e1 : fEq (.str "1") (.str "1") = some (.bool true) := rfl
  have el : fEq (.list [.bool true, .bool false, .bool false, .bool false, .bool false]) (.list [.bool true, .bool false, .bool false, .bool false, .bool false]) = some (.bool true) := by kernel_rfl
  unfold w__law_kinds
  simp only [wSeq, wAsg, wName, wBin, wVar, wC, wTest, wIfS, wIf, wNext, wRet, wCons, wNil, wCB, wIxK, wIxO, wPutI, wCallB, wPar, wLst, wTup, wUn, wL, wLstL, wRetL, wOr, wAnd, wNot, wOwn, wExt, wApp, wRev, wTake, wGive, wND, slotOf, wFreeze, wCall, wCallL, wCallK, wCallLK, wCallX, wCallXK, wiRng1, wiList, wiTup, wFor, wLcN, wkCl, wkApp, wYes, wgTup, wgCons, wgNil, wLend, lendD, lendS, wipeD, wPre, wWipe, forgetD, wParN, wSetN, wInS, wAddS, Md.may, T.data, Option.map_some, List.map_cons, List.map_nil, List.getElem?_cons_zero, List.getElem?_cons_succ, List.set_cons_zero, List.set_cons_succ, Option.some.injEq, Sl.d.injEq, Sl.o.injEq, T.l.injEq, T.s.injEq, T.d.injEq, PyData.int.injEq, PyData.bool.injEq, exists_eq_left, exists_eq_left', and_assoc, exists_and_left, exists_eq', and_true, true_and, if_true, List.length_cons, List.length_nil, Option.bind_some, List.cons_append, List.nil_append, List.append_nil, f1, f2, wNotV, i0, i1, i2, i3, i4, i5, i6, i7, i8, i9, i10, i11, i12, i13, i14, i15, j0, j1, j2, j3, j4]
  repeat (first | refine ⟨by decide, ?_⟩ | refine ⟨_, f_addL (by decide), ?_⟩)
  simp only [wM2, wSeq, wAsg, wName, wBin, wVar, wC, wTest, wIfS, wIf, wNext, wRet, wCons, wNil, wCB, wIxK, wIxO, wPutI, wCallB, wPar, wLst, wTup, wUn, wL, wLstL, wRetL, wOr, wAnd, wNot, wOwn, wExt, wApp, wRev, wTake, wGive, wND, slotOf, wFreeze, wCall, wCallL, wCallK, wCallLK, wCallX, wCallXK, wiRng1, wiList, wiTup, wFor, wLcN, wkCl, wkApp, wYes, wgTup, wgCons, wgNil, wLend, lendD, lendS, wipeD, wPre, wWipe, forgetD, wParN, wSetN, wInS, wAddS, Md.may, T.data, Option.map_some, List.map_cons, List.map_nil, List.getElem?_cons_zero, List.getElem?_cons_succ, List.set_cons_zero, List.set_cons_succ, Option.some.injEq, Sl.d.injEq, Sl.o.injEq, T.l.injEq, T.s.injEq, T.d.injEq, PyData.int.injEq, PyData.bool.injEq, exists_eq_left, exists_eq_left', and_assoc, exists_and_left, exists_eq', and_true, true_and, if_true, List.length_cons, List.length_nil, Option.bind_some, List.cons_append, List.nil_append, List.append_nil, f1, f2, wNotV, List.cons_append, List.nil_append, cn, ne1, ix, exists_eq_left', Bool.false_eq_true, if_false, PyData.list.injEq, exists_eq']
  try simp only [r1, r2, r3, wSeq, wAsg, wName, wBin, wVar, wC, wTest, wIfS, wIf, wNext, wRet, wCons, wNil, wCB, wIxK, wIxO, wPutI, wCallB, wPar, wLst, wTup, wUn, wL, wLstL, wRetL, wOr, wAnd, wNot, wOwn, wExt, wApp, wRev, wTake, wGive, wND, slotOf, wFreeze, wCall, wCallL, wCallK, wCallLK, wCallX, wCallXK, wiRng1, wiList, wiTup, wFor, wLcN, wkCl, wkApp, wYes, wgTup, wgCons, wgNil, wLend, lendD, lendS, wipeD, wPre, wWipe, forgetD, wParN, wSetN, wInS, wAddS, Md.may, T.data, Option.map_some, List.map_cons, List.map_nil, List.getElem?_cons_zero, List.getElem?_cons_succ, List.set_cons_zero, List.set_cons_succ, Option.some.injEq, Sl.d.injEq, Sl.o.injEq, T.l.injEq, T.s.injEq, T.d.injEq, PyData.int.injEq, PyData.bool.injEq, exists_eq_left, exists_eq_left', and_assoc, exists_and_left, exists_eq', and_true, true_and, if_true, List.length_cons, List.length_nil, Option.bind_some, List.cons_append, List.nil_append, List.append_nil, f1, f2, wNotV, List.cons_append, List.nil_append, PyData.list.injEq]
  repeat (first | refine ⟨by decide, ?_⟩ | refine ⟨_, f_addL (by decide), ?_⟩)
  simp only [wiStr, wSeq, wAsg, wName, wBin, wVar, wC, wTest, wIfS, wIf, wNext, wRet, wCons, wNil, wCB, wIxK, wIxO, wPutI, wCallB, wPar, wLst, wTup, wUn, wL, wLstL, wRetL, wOr, wAnd, wNot, wOwn, wExt, wApp, wRev, wTake, wGive, wND, slotOf, wFreeze, wCall, wCallL, wCallK, wCallLK, wCallX, wCallXK, wiRng1, wiList, wiTup, wFor, wLcN, wkCl, wkApp, wYes, wgTup, wgCons, wgNil, wLend, lendD, lendS, wipeD, wPre, wWipe, forgetD, wParN, wSetN, wInS, wAddS, Md.may, T.data, Option.map_some, List.map_cons, List.map_nil, List.getElem?_cons_zero, List.getElem?_cons_succ, List.set_cons_zero, List.set_cons_succ, Option.some.injEq, Sl.d.injEq, Sl.o.injEq, T.l.injEq, T.s.injEq, T.d.injEq, PyData.int.injEq, PyData.bool.injEq, exists_eq_left, exists_eq_left', and_assoc, exists_and_left, exists_eq', and_true, true_and, if_true, List.length_cons, List.length_nil, Option.bind_some, List.cons_append, List.nil_append, List.append_nil, f1, f2, wNotV, PyData.tuple.injEq, PyData.list.injEq, PyData.str.injEq, List.cons.injEq, exists_eq_right_right, exists_eq_right, wgStar, wgLst, wSl, woNone, woSome, wOrV, wAndV, wChain, wDrop, wDisp, wDispG, wVals, lookD, xd, as0, ch, clRec, e0, e1, el, xn]
  repeat (first | exact hP | refine ⟨by decide, ?_⟩)
theorem kinds_NoRows {fs : List (Str × PyData)} {P : PyData → Prop} (hP : P (.str "NoRows")) : w__law_kinds (endsP P) [some (.d (excDt ⟨"NoRows", fs⟩)), none, none, none, none, none, none] := by
  have i0 : fIsE tb_NoBase (excDt ⟨"NoRows", fs⟩) = some (.bool false) := rfl
  have i1 : fIsE tb_NoText (excDt ⟨"NoRows", fs⟩) = some (.bool false) := rfl
  have i2 : fIsE tb_NoRows (excDt ⟨"NoRows", fs⟩) = some (.bool true) := rfl
  have i3 : fIsE tb_NoStand (excDt ⟨"NoRows", fs⟩) = some (.bool false) := rfl
  have i4 : fIsE tb_NoName (excDt ⟨"NoRows", fs⟩) = some (.bool false) := rfl
  have i5 : fIsE tb_NoNumber (excDt ⟨"NoRows", fs⟩) = some (.bool false) := rfl
  have i6 : fIsE tb_NoHistory (excDt ⟨"NoRows", fs⟩) = some (.bool false) := rfl
  have i7 : fIsE tb_NoCommand (excDt ⟨"NoRows", fs⟩) = some (.bool false) := rfl
  have i8 : fIsE tb_NoPart (excDt ⟨"NoRows", fs⟩) = some (.bool false) := rfl
  have i9 : fIsE tb_NoRun (excDt ⟨"NoRows", fs⟩) = some (.bool false) := rfl
  have i10 : fIsE tb_NoBranch (excDt ⟨"NoRows", fs⟩) = some (.bool false) := rfl
  have i11 : fIsE tb_NoCell (excDt ⟨"NoRows", fs⟩) = some (.bool false) := rfl
  have i12 : fIsE tb_NoDepth (excDt ⟨"NoRows", fs⟩) = some (.bool false) := rfl
  have i13 : fIsE tb_NoAnswer (excDt ⟨"NoRows", fs⟩) = some (.bool false) := rfl
  have i14 : fIsE tb_NotAsked (excDt ⟨"NoRows", fs⟩) = some (.bool false) := rfl
  have i15 : fIsE tb_Over (excDt ⟨"NoRows", fs⟩) = some (.bool false) := rfl
  have j0 : fIsE tb_ValueError (excDt ⟨"NoRows", fs⟩) = some (.bool true) := rfl
  have j1 : fIsE tb_KeyError (excDt ⟨"NoRows", fs⟩) = some (.bool false) := rfl
  have j2 : fIsE tb_IndexError (excDt ⟨"NoRows", fs⟩) = some (.bool false) := rfl
  have j3 : fIsE tb_LookupError (excDt ⟨"NoRows", fs⟩) = some (.bool false) := rfl
  have j4 : fIsE tb_RuntimeError (excDt ⟨"NoRows", fs⟩) = some (.bool false) := rfl
  generalize excDt ⟨"NoRows", fs⟩ = dx at *
  have cn : fCnt (.list [.bool false, .bool false, .bool true, .bool false, .bool false, .bool false, .bool false, .bool false, .bool false, .bool false, .bool false, .bool false, .bool false, .bool false, .bool false, .bool false]) (.bool true) = some (.int 1) := by kernel_rfl
  have ix : fIdx (.list [.bool false, .bool false, .bool true, .bool false, .bool false, .bool false, .bool false, .bool false, .bool false, .bool false, .bool false, .bool false, .bool false, .bool false, .bool false, .bool false]) (.bool true) = some (.int 2) := by kernel_rfl
  have ne1 : fNe (.int 1) (.int 1) = some (.bool false) := rfl
  have r1 : fRep (.list [.str "10000"]) (.int 8) = some (.list [.str "10000", .str "10000", .str "10000", .str "10000", .str "10000", .str "10000", .str "10000", .str "10000"]) := by kernel_rfl
  have r2 : fRep (.list [.str "01010"]) (.int 2) = some (.list [.str "01010", .str "01010"]) := by kernel_rfl
  have r3 : fRep (.list [.str "00110"]) (.int 3) = some (.list [.str "00110", .str "00110", .str "00110"]) := by kernel_rfl
  have xd : fIx (.list [.str "10000", .str "10000", .str "10000", .str "10000", .str "10000", .str "10000", .str "10000", .str "10000", .str "01010", .str "01010", .str "00110", .str "00110", .str "00110", .str "00010", .str "00001", .str "00001"]) (.int 2) = some (.str "10000") := by kernel_rfl
  have xn : fIx (.list [.str "NoBase", .str "NoText", .str "NoRows", .str "NoStand", .str "NoName", .str "NoNumber", .str "NoHistory", .str "NoCommand", .str "NoPart", .str "NoRun", .str "NoBranch", .str "NoCell", .str "NoDepth", .str "NoAnswer", .str "NotAsked", .str "Over"]) (.int 2) = some (.str "NoRows") := by kernel_rfl
  have ch : chars "10000" = [.str "1", .str "0", .str "0", .str "0", .str "0"] := rfl
  have as0 : ascC "10000" = true := by decide +kernel
  have e0 : fEq (.str "0") (.str "1") = some (.bool false) := rfl
  have e1 : fEq (.str "1") (.str "1") = some (.bool true) := rfl
  have el : fEq (.list [.bool true, .bool false, .bool false, .bool false, .bool false]) (.list [.bool true, .bool false, .bool false, .bool false, .bool false]) = some (.bool true) := by kernel_rfl
  unfold w__law_kinds
  simp only [wSeq, wAsg, wName, wBin, wVar, wC, wTest, wIfS, wIf, wNext, wRet, wCons, wNil, wCB, wIxK, wIxO, wPutI, wCallB, wPar, wLst, wTup, wUn, wL, wLstL, wRetL, wOr, wAnd, wNot, wOwn, wExt, wApp, wRev, wTake, wGive, wND, slotOf, wFreeze, wCall, wCallL, wCallK, wCallLK, wCallX, wCallXK, wiRng1, wiList, wiTup, wFor, wLcN, wkCl, wkApp, wYes, wgTup, wgCons, wgNil, wLend, lendD, lendS, wipeD, wPre, wWipe, forgetD, wParN, wSetN, wInS, wAddS, Md.may, T.data, Option.map_some, List.map_cons, List.map_nil, List.getElem?_cons_zero, List.getElem?_cons_succ, List.set_cons_zero, List.set_cons_succ, Option.some.injEq, Sl.d.injEq, Sl.o.injEq, T.l.injEq, T.s.injEq, T.d.injEq, PyData.int.injEq, PyData.bool.injEq, exists_eq_left, exists_eq_left', and_assoc, exists_and_left, exists_eq', and_true, true_and, if_true, List.length_cons, List.length_nil, Option.bind_some, List.cons_append, List.nil_append, List.append_nil, f1, f2, wNotV, i0, i1, i2, i3, i4, i5, i6, i7, i8, i9, i10, i11, i12, i13, i14, i15, j0, j1, j2, j3, j4]
  repeat (first | refine ⟨by decide, ?_⟩ | refine ⟨_, f_addL (by decide), ?_⟩)
  simp only [wM2, wSeq, wAsg, wName, wBin, wVar, wC, wTest, wIfS, wIf, wNext, wRet, wCons, wNil, wCB, wIxK, wIxO, wPutI, wCallB, wPar, wLst, wTup, wUn, wL, wLstL, wRetL, wOr, wAnd, wNot, wOwn, wExt, wApp, wRev, wTake, wGive, wND, slotOf, wFreeze, wCall, wCallL, wCallK, wCallLK, wCallX, wCallXK, wiRng1, wiList, wiTup, wFor, wLcN, wkCl, wkApp, wYes, wgTup, wgCons, wgNil, wLend, lendD, lendS, wipeD, wPre, wWipe, forgetD, wParN, wSetN, wInS, wAddS, Md.may, T.data, Option.map_some, List.map_cons, List.map_nil, List.getElem?_cons_zero, List.getElem?_cons_succ, List.set_cons_zero, List.set_cons_succ, Option.some.injEq, Sl.d.injEq, Sl.o.injEq, T.l.injEq, T.s.injEq, T.d.injEq, PyData.int.injEq, PyData.bool.injEq, exists_eq_left, exists_eq_left', and_assoc, exists_and_left, exists_eq', and_true, true_and, if_true, List.length_cons, List.length_nil, Option.bind_some, List.cons_append, List.nil_append, List.append_nil, f1, f2, wNotV, List.cons_append, List.nil_append, cn, ne1, ix, exists_eq_left', Bool.false_eq_true, if_false, PyData.list.injEq, exists_eq']
  try simp only [r1, r2, r3, wSeq, wAsg, wName, wBin, wVar, wC, wTest, wIfS, wIf, wNext, wRet, wCons, wNil, wCB, wIxK, wIxO, wPutI, wCallB, wPar, wLst, wTup, wUn, wL, wLstL, wRetL, wOr, wAnd, wNot, wOwn, wExt, wApp, wRev, wTake, wGive, wND, slotOf, wFreeze, wCall, wCallL, wCallK, wCallLK, wCallX, wCallXK, wiRng1, wiList, wiTup, wFor, wLcN, wkCl, wkApp, wYes, wgTup, wgCons, wgNil, wLend, lendD, lendS, wipeD, wPre, wWipe, forgetD, wParN, wSetN, wInS, wAddS, Md.may, T.data, Option.map_some, List.map_cons, List.map_nil, List.getElem?_cons_zero, List.getElem?_cons_succ, List.set_cons_zero, List.set_cons_succ, Option.some.injEq, Sl.d.injEq, Sl.o.injEq, T.l.injEq, T.s.injEq, T.d.injEq, PyData.int.injEq, PyData.bool.injEq, exists_eq_left, exists_eq_left', and_assoc, exists_and_left, exists_eq', and_true, true_and, if_true, List.length_cons, List.length_nil, Option.bind_some, List.cons_append, List.nil_append, List.append_nil, f1, f2, wNotV, List.cons_append, List.nil_append, PyData.list.injEq]
  repeat (first | refine ⟨by decide, ?_⟩ | refine ⟨_, f_addL (by decide), ?_⟩)
  simp only [wiStr, wSeq, wAsg, wName, wBin, wVar, wC, wTest, wIfS, wIf, wNext, wRet, wCons, wNil, wCB, wIxK, wIxO, wPutI, wCallB, wPar, wLst, wTup, wUn, wL, wLstL, wRetL, wOr, wAnd, wNot, wOwn, wExt, wApp, wRev, wTake, wGive, wND, slotOf, wFreeze, wCall, wCallL, wCallK, wCallLK, wCallX, wCallXK, wiRng1, wiList, wiTup, wFor, wLcN, wkCl, wkApp, wYes, wgTup, wgCons, wgNil, wLend, lendD, lendS, wipeD, wPre, wWipe, forgetD, wParN, wSetN, wInS, wAddS, Md.may, T.data, Option.map_some, List.map_cons, List.map_nil, List.getElem?_cons_zero, List.getElem?_cons_succ, List.set_cons_zero, List.set_cons_succ, Option.some.injEq, Sl.d.injEq, Sl.o.injEq, T.l.injEq, T.s.injEq, T.d.injEq, PyData.int.injEq, PyData.bool.injEq, exists_eq_left, exists_eq_left', and_assoc, exists_and_left, exists_eq', and_true, true_and, if_true, List.length_cons, List.length_nil, Option.bind_some, List.cons_append, List.nil_append, List.append_nil, f1, f2, wNotV, PyData.tuple.injEq, PyData.list.injEq, PyData.str.injEq, List.cons.injEq, exists_eq_right_right, exists_eq_right, wgStar, wgLst, wSl, woNone, woSome, wOrV, wAndV, wChain, wDrop, wDisp, wDispG, wVals, lookD, xd, as0, ch, clRec, e0, e1, el, xn]
  repeat (first | exact hP | refine ⟨by decide, ?_⟩)
theorem kinds_NoStand {fs : List (Str × PyData)} {P : PyData → Prop} (hP : P (.str "NoStand")) : w__law_kinds (endsP P) [some (.d (excDt ⟨"NoStand", fs⟩)), none, none, none, none, none, none] := by
  have i0 : fIsE tb_NoBase (excDt ⟨"NoStand", fs⟩) = some (.bool false) := rfl
  have i1 : fIsE tb_NoText (excDt ⟨"NoStand", fs⟩) = some (.bool false) := rfl
  have i2 : fIsE tb_NoRows (excDt ⟨"NoStand", fs⟩) = some (.bool false) := rfl
  have i3 : fIsE tb_NoStand (excDt ⟨"NoStand", fs⟩) = some (.bool true) := rfl
  have i4 : fIsE tb_NoName (excDt ⟨"NoStand", fs⟩) = some (.bool false) := rfl
  have i5 : fIsE tb_NoNumber (excDt ⟨"NoStand", fs⟩) = some (.bool false) := rfl
  have i6 : fIsE tb_NoHistory (excDt ⟨"NoStand", fs⟩) = some (.bool false) := rfl
  have i7 : fIsE tb_NoCommand (excDt ⟨"NoStand", fs⟩) = some (.bool false) := rfl
  have i8 : fIsE tb_NoPart (excDt ⟨"NoStand", fs⟩) = some (.bool false) := rfl
  have i9 : fIsE tb_NoRun (excDt ⟨"NoStand", fs⟩) = some (.bool false) := rfl
  have i10 : fIsE tb_NoBranch (excDt ⟨"NoStand", fs⟩) = some (.bool false) := rfl
  have i11 : fIsE tb_NoCell (excDt ⟨"NoStand", fs⟩) = some (.bool false) := rfl
  have i12 : fIsE tb_NoDepth (excDt ⟨"NoStand", fs⟩) = some (.bool false) := rfl
  have i13 : fIsE tb_NoAnswer (excDt ⟨"NoStand", fs⟩) = some (.bool false) := rfl
  have i14 : fIsE tb_NotAsked (excDt ⟨"NoStand", fs⟩) = some (.bool false) := rfl
  have i15 : fIsE tb_Over (excDt ⟨"NoStand", fs⟩) = some (.bool false) := rfl
  have j0 : fIsE tb_ValueError (excDt ⟨"NoStand", fs⟩) = some (.bool true) := rfl
  have j1 : fIsE tb_KeyError (excDt ⟨"NoStand", fs⟩) = some (.bool false) := rfl
  have j2 : fIsE tb_IndexError (excDt ⟨"NoStand", fs⟩) = some (.bool false) := rfl
  have j3 : fIsE tb_LookupError (excDt ⟨"NoStand", fs⟩) = some (.bool false) := rfl
  have j4 : fIsE tb_RuntimeError (excDt ⟨"NoStand", fs⟩) = some (.bool false) := rfl
  generalize excDt ⟨"NoStand", fs⟩ = dx at *
  have cn : fCnt (.list [.bool false, .bool false, .bool false, .bool true, .bool false, .bool false, .bool false, .bool false, .bool false, .bool false, .bool false, .bool false, .bool false, .bool false, .bool false, .bool false]) (.bool true) = some (.int 1) := by kernel_rfl
  have ix : fIdx (.list [.bool false, .bool false, .bool false, .bool true, .bool false, .bool false, .bool false, .bool false, .bool false, .bool false, .bool false, .bool false, .bool false, .bool false, .bool false, .bool false]) (.bool true) = some (.int 3) := by kernel_rfl
  have ne1 : fNe (.int 1) (.int 1) = some (.bool false) := rfl
  have r1 : fRep (.list [.str "10000"]) (.int 8) = some (.list [.str "10000", .str "10000", .str "10000", .str "10000", .str "10000", .str "10000", .str "10000", .str "10000"]) := by kernel_rfl
  have r2 : fRep (.list [.str "01010"]) (.int 2) = some (.list [.str "01010", .str "01010"]) := by kernel_rfl
  have r3 : fRep (.list [.str "00110"]) (.int 3) = some (.list [.str "00110", .str "00110", .str "00110"]) := by kernel_rfl
  have xd : fIx (.list [.str "10000", .str "10000", .str "10000", .str "10000", .str "10000", .str "10000", .str "10000", .str "10000", .str "01010", .str "01010", .str "00110", .str "00110", .str "00110", .str "00010", .str "00001", .str "00001"]) (.int 3) = some (.str "10000") := by kernel_rfl
  have xn : fIx (.list [.str "NoBase", .str "NoText", .str "NoRows", .str "NoStand", .str "NoName", .str "NoNumber", .str "NoHistory", .str "NoCommand", .str "NoPart", .str "NoRun", .str "NoBranch", .str "NoCell", .str "NoDepth", .str "NoAnswer", .str "NotAsked", .str "Over"]) (.int 3) = some (.str "NoStand") := by kernel_rfl
  have ch : chars "10000" = [.str "1", .str "0", .str "0", .str "0", .str "0"] := rfl
  have as0 : ascC "10000" = true := by decide +kernel
  have e0 : fEq (.str "0") (.str "1") = some (.bool false) := rfl
  have e1 : fEq (.str "1") (.str "1") = some (.bool true) := rfl
  have el : fEq (.list [.bool true, .bool false, .bool false, .bool false, .bool false]) (.list [.bool true, .bool false, .bool false, .bool false, .bool false]) = some (.bool true) := by kernel_rfl
  unfold w__law_kinds
  simp only [wSeq, wAsg, wName, wBin, wVar, wC, wTest, wIfS, wIf, wNext, wRet, wCons, wNil, wCB, wIxK, wIxO, wPutI, wCallB, wPar, wLst, wTup, wUn, wL, wLstL, wRetL, wOr, wAnd, wNot, wOwn, wExt, wApp, wRev, wTake, wGive, wND, slotOf, wFreeze, wCall, wCallL, wCallK, wCallLK, wCallX, wCallXK, wiRng1, wiList, wiTup, wFor, wLcN, wkCl, wkApp, wYes, wgTup, wgCons, wgNil, wLend, lendD, lendS, wipeD, wPre, wWipe, forgetD, wParN, wSetN, wInS, wAddS, Md.may, T.data, Option.map_some, List.map_cons, List.map_nil, List.getElem?_cons_zero, List.getElem?_cons_succ, List.set_cons_zero, List.set_cons_succ, Option.some.injEq, Sl.d.injEq, Sl.o.injEq, T.l.injEq, T.s.injEq, T.d.injEq, PyData.int.injEq, PyData.bool.injEq, exists_eq_left, exists_eq_left', and_assoc, exists_and_left, exists_eq', and_true, true_and, if_true, List.length_cons, List.length_nil, Option.bind_some, List.cons_append, List.nil_append, List.append_nil, f1, f2, wNotV, i0, i1, i2, i3, i4, i5, i6, i7, i8, i9, i10, i11, i12, i13, i14, i15, j0, j1, j2, j3, j4]
  repeat (first | refine ⟨by decide, ?_⟩ | refine ⟨_, f_addL (by decide), ?_⟩)
  simp only [wM2, wSeq, wAsg, wName, wBin, wVar, wC, wTest, wIfS, wIf, wNext, wRet, wCons, wNil, wCB, wIxK, wIxO, wPutI, wCallB, wPar, wLst, wTup, wUn, wL, wLstL, wRetL, wOr, wAnd, wNot, wOwn, wExt, wApp, wRev, wTake, wGive, wND, slotOf, wFreeze, wCall, wCallL, wCallK, wCallLK, wCallX, wCallXK, wiRng1, wiList, wiTup, wFor, wLcN, wkCl, wkApp, wYes, wgTup, wgCons, wgNil, wLend, lendD, lendS, wipeD, wPre, wWipe, forgetD, wParN, wSetN, wInS, wAddS, Md.may, T.data, Option.map_some, List.map_cons, List.map_nil, List.getElem?_cons_zero, List.getElem?_cons_succ, List.set_cons_zero, List.set_cons_succ, Option.some.injEq, Sl.d.injEq, Sl.o.injEq, T.l.injEq, T.s.injEq, T.d.injEq, PyData.int.injEq, PyData.bool.injEq, exists_eq_left, exists_eq_left', and_assoc, exists_and_left, exists_eq', and_true, true_and, if_true, List.length_cons, List.length_nil, Option.bind_some, List.cons_append, List.nil_append, List.append_nil, f1, f2, wNotV, List.cons_append, List.nil_append, cn, ne1, ix, exists_eq_left', Bool.false_eq_true, if_false, PyData.list.injEq, exists_eq']
  try simp only [r1, r2, r3, wSeq, wAsg, wName, wBin, wVar, wC, wTest, wIfS, wIf, wNext, wRet, wCons, wNil, wCB, wIxK, wIxO, wPutI, wCallB, wPar, wLst, wTup, wUn, wL, wLstL, wRetL, wOr, wAnd, wNot, wOwn, wExt, wApp, wRev, wTake, wGive, wND, slotOf, wFreeze, wCall, wCallL, wCallK, wCallLK, wCallX, wCallXK, wiRng1, wiList, wiTup, wFor, wLcN, wkCl, wkApp, wYes, wgTup, wgCons, wgNil, wLend, lendD, lendS, wipeD, wPre, wWipe, forgetD, wParN, wSetN, wInS, wAddS, Md.may, T.data, Option.map_some, List.map_cons, List.map_nil, List.getElem?_cons_zero, List.getElem?_cons_succ, List.set_cons_zero, List.set_cons_succ, Option.some.injEq, Sl.d.injEq, Sl.o.injEq, T.l.injEq, T.s.injEq, T.d.injEq, PyData.int.injEq, PyData.bool.injEq, exists_eq_left, exists_eq_left', and_assoc, exists_and_left, exists_eq', and_true, true_and, if_true, List.length_cons, List.length_nil, Option.bind_some, List.cons_append, List.nil_append, List.append_nil, f1, f2, wNotV, List.cons_append, List.nil_append, PyData.list.injEq]
  repeat (first | refine ⟨by decide, ?_⟩ | refine ⟨_, f_addL (by decide), ?_⟩)
  simp only [wiStr, wSeq, wAsg, wName, wBin, wVar, wC, wTest, wIfS, wIf, wNext, wRet, wCons, wNil, wCB, wIxK, wIxO, wPutI, wCallB, wPar, wLst, wTup, wUn, wL, wLstL, wRetL, wOr, wAnd, wNot, wOwn, wExt, wApp, wRev, wTake, wGive, wND, slotOf, wFreeze, wCall, wCallL, wCallK, wCallLK, wCallX, wCallXK, wiRng1, wiList, wiTup, wFor, wLcN, wkCl, wkApp, wYes, wgTup, wgCons, wgNil, wLend, lendD, lendS, wipeD, wPre, wWipe, forgetD, wParN, wSetN, wInS, wAddS, Md.may, T.data, Option.map_some, List.map_cons, List.map_nil, List.getElem?_cons_zero, List.getElem?_cons_succ, List.set_cons_zero, List.set_cons_succ, Option.some.injEq, Sl.d.injEq, Sl.o.injEq, T.l.injEq, T.s.injEq, T.d.injEq, PyData.int.injEq, PyData.bool.injEq, exists_eq_left, exists_eq_left', and_assoc, exists_and_left, exists_eq', and_true, true_and, if_true, List.length_cons, List.length_nil, Option.bind_some, List.cons_append, List.nil_append, List.append_nil, f1, f2, wNotV, PyData.tuple.injEq, PyData.list.injEq, PyData.str.injEq, List.cons.injEq, exists_eq_right_right, exists_eq_right, wgStar, wgLst, wSl, woNone, woSome, wOrV, wAndV, wChain, wDrop, wDisp, wDispG, wVals, lookD, xd, as0, ch, clRec, e0, e1, el, xn]
  repeat (first | exact hP | refine ⟨by decide, ?_⟩)
theorem kinds_NoName {fs : List (Str × PyData)} {P : PyData → Prop} (hP : P (.str "NoName")) : w__law_kinds (endsP P) [some (.d (excDt ⟨"NoName", fs⟩)), none, none, none, none, none, none] := by
  have i0 : fIsE tb_NoBase (excDt ⟨"NoName", fs⟩) = some (.bool false) := rfl
  have i1 : fIsE tb_NoText (excDt ⟨"NoName", fs⟩) = some (.bool false) := rfl
  have i2 : fIsE tb_NoRows (excDt ⟨"NoName", fs⟩) = some (.bool false) := rfl
  have i3 : fIsE tb_NoStand (excDt ⟨"NoName", fs⟩) = some (.bool false) := rfl
  have i4 : fIsE tb_NoName (excDt ⟨"NoName", fs⟩) = some (.bool true) := rfl
  have i5 : fIsE tb_NoNumber (excDt ⟨"NoName", fs⟩) = some (.bool false) := rfl
  have i6 : fIsE tb_NoHistory (excDt ⟨"NoName", fs⟩) = some (.bool false) := rfl
  have i7 : fIsE tb_NoCommand (excDt ⟨"NoName", fs⟩) = some (.bool false) := rfl
  have i8 : fIsE tb_NoPart (excDt ⟨"NoName", fs⟩) = some (.bool false) := rfl
  have i9 : fIsE tb_NoRun (excDt ⟨"NoName", fs⟩) = some (.bool false) := rfl
  have i10 : fIsE tb_NoBranch (excDt ⟨"NoName", fs⟩) = some (.bool false) := rfl
  have i11 : fIsE tb_NoCell (excDt ⟨"NoName", fs⟩) = some (.bool false) := rfl
  have i12 : fIsE tb_NoDepth (excDt ⟨"NoName", fs⟩) = some (.bool false) := rfl
  have i13 : fIsE tb_NoAnswer (excDt ⟨"NoName", fs⟩) = some (.bool false) := rfl
  have i14 : fIsE tb_NotAsked (excDt ⟨"NoName", fs⟩) = some (.bool false) := rfl
  have i15 : fIsE tb_Over (excDt ⟨"NoName", fs⟩) = some (.bool false) := rfl
  have j0 : fIsE tb_ValueError (excDt ⟨"NoName", fs⟩) = some (.bool true) := rfl
  have j1 : fIsE tb_KeyError (excDt ⟨"NoName", fs⟩) = some (.bool false) := rfl
  have j2 : fIsE tb_IndexError (excDt ⟨"NoName", fs⟩) = some (.bool false) := rfl
  have j3 : fIsE tb_LookupError (excDt ⟨"NoName", fs⟩) = some (.bool false) := rfl
  have j4 : fIsE tb_RuntimeError (excDt ⟨"NoName", fs⟩) = some (.bool false) := rfl
  generalize excDt ⟨"NoName", fs⟩ = dx at *
  have cn : fCnt (.list [.bool false, .bool false, .bool false, .bool false, .bool true, .bool false, .bool false, .bool false, .bool false, .bool false, .bool false, .bool false, .bool false, .bool false, .bool false, .bool false]) (.bool true) = some (.int 1) := by kernel_rfl
  have ix : fIdx (.list [.bool false, .bool false, .bool false, .bool false, .bool true, .bool false, .bool false, .bool false, .bool false, .bool false, .bool false, .bool false, .bool false, .bool false, .bool false, .bool false]) (.bool true) = some (.int 4) := by kernel_rfl
  have ne1 : fNe (.int 1) (.int 1) = some (.bool false) := rfl
  have r1 : fRep (.list [.str "10000"]) (.int 8) = some (.list [.str "10000", .str "10000", .str "10000", .str "10000", .str "10000", .str "10000", .str "10000", .str "10000"]) := by kernel_rfl
  have r2 : fRep (.list [.str "01010"]) (.int 2) = some (.list [.str "01010", .str "01010"]) := by kernel_rfl
  have r3 : fRep (.list [.str "00110"]) (.int 3) = some (.list [.str "00110", .str "00110", .str "00110"]) := by kernel_rfl
  have xd : fIx (.list [.str "10000", .str "10000", .str "10000", .str "10000", .str "10000", .str "10000", .str "10000", .str "10000", .str "01010", .str "01010", .str "00110", .str "00110", .str "00110", .str "00010", .str "00001", .str "00001"]) (.int 4) = some (.str "10000") := by kernel_rfl
  have xn : fIx (.list [.str "NoBase", .str "NoText", .str "NoRows", .str "NoStand", .str "NoName", .str "NoNumber", .str "NoHistory", .str "NoCommand", .str "NoPart", .str "NoRun", .str "NoBranch", .str "NoCell", .str "NoDepth", .str "NoAnswer", .str "NotAsked", .str "Over"]) (.int 4) = some (.str "NoName") := by kernel_rfl
  have ch : chars "10000" = [.str "1", .str "0", .str "0", .str "0", .str "0"] := rfl
  have as0 : ascC "10000" = true := by decide +kernel
  have e0 : fEq (.str "0") (.str "1") = some (.bool false) := rfl
  have e1 : fEq (.str "1") (.str "1") = some (.bool true) := rfl
  have el : fEq (.list [.bool true, .bool false, .bool false, .bool false, .bool false]) (.list [.bool true, .bool false, .bool false, .bool false, .bool false]) = some (.bool true) := by kernel_rfl
  unfold w__law_kinds
  simp only [wSeq, wAsg, wName, wBin, wVar, wC, wTest, wIfS, wIf, wNext, wRet, wCons, wNil, wCB, wIxK, wIxO, wPutI, wCallB, wPar, wLst, wTup, wUn, wL, wLstL, wRetL, wOr, wAnd, wNot, wOwn, wExt, wApp, wRev, wTake, wGive, wND, slotOf, wFreeze, wCall, wCallL, wCallK, wCallLK, wCallX, wCallXK, wiRng1, wiList, wiTup, wFor, wLcN, wkCl, wkApp, wYes, wgTup, wgCons, wgNil, wLend, lendD, lendS, wipeD, wPre, wWipe, forgetD, wParN, wSetN, wInS, wAddS, Md.may, T.data, Option.map_some, List.map_cons, List.map_nil, List.getElem?_cons_zero, List.getElem?_cons_succ, List.set_cons_zero, List.set_cons_succ, Option.some.injEq, Sl.d.injEq, Sl.o.injEq, T.l.injEq, T.s.injEq, T.d.injEq, PyData.int.injEq, PyData.bool.injEq, exists_eq_left, exists_eq_left', and_assoc, exists_and_left, exists_eq', and_true, true_and, if_true, List.length_cons, List.length_nil, Option.bind_some, List.cons_append, List.nil_append, List.append_nil, f1, f2, wNotV, i0, i1, i2, i3, i4, i5, i6, i7, i8, i9, i10, i11, i12, i13, i14, i15, j0, j1, j2, j3, j4]
  repeat (first | refine ⟨by decide, ?_⟩ | refine ⟨_, f_addL (by decide), ?_⟩)
  simp only [wM2, wSeq, wAsg, wName, wBin, wVar, wC, wTest, wIfS, wIf, wNext, wRet, wCons, wNil, wCB, wIxK, wIxO, wPutI, wCallB, wPar, wLst, wTup, wUn, wL, wLstL, wRetL, wOr, wAnd, wNot, wOwn, wExt, wApp, wRev, wTake, wGive, wND, slotOf, wFreeze, wCall, wCallL, wCallK, wCallLK, wCallX, wCallXK, wiRng1, wiList, wiTup, wFor, wLcN, wkCl, wkApp, wYes, wgTup, wgCons, wgNil, wLend, lendD, lendS, wipeD, wPre, wWipe, forgetD, wParN, wSetN, wInS, wAddS, Md.may, T.data, Option.map_some, List.map_cons, List.map_nil, List.getElem?_cons_zero, List.getElem?_cons_succ, List.set_cons_zero, List.set_cons_succ, Option.some.injEq, Sl.d.injEq, Sl.o.injEq, T.l.injEq, T.s.injEq, T.d.injEq, PyData.int.injEq, PyData.bool.injEq, exists_eq_left, exists_eq_left', and_assoc, exists_and_left, exists_eq', and_true, true_and, if_true, List.length_cons, List.length_nil, Option.bind_some, List.cons_append, List.nil_append, List.append_nil, f1, f2, wNotV, List.cons_append, List.nil_append, cn, ne1, ix, exists_eq_left', Bool.false_eq_true, if_false, PyData.list.injEq, exists_eq']
  try simp only [r1, r2, r3, wSeq, wAsg, wName, wBin, wVar, wC, wTest, wIfS, wIf, wNext, wRet, wCons, wNil, wCB, wIxK, wIxO, wPutI, wCallB, wPar, wLst, wTup, wUn, wL, wLstL, wRetL, wOr, wAnd, wNot, wOwn, wExt, wApp, wRev, wTake, wGive, wND, slotOf, wFreeze, wCall, wCallL, wCallK, wCallLK, wCallX, wCallXK, wiRng1, wiList, wiTup, wFor, wLcN, wkCl, wkApp, wYes, wgTup, wgCons, wgNil, wLend, lendD, lendS, wipeD, wPre, wWipe, forgetD, wParN, wSetN, wInS, wAddS, Md.may, T.data, Option.map_some, List.map_cons, List.map_nil, List.getElem?_cons_zero, List.getElem?_cons_succ, List.set_cons_zero, List.set_cons_succ, Option.some.injEq, Sl.d.injEq, Sl.o.injEq, T.l.injEq, T.s.injEq, T.d.injEq, PyData.int.injEq, PyData.bool.injEq, exists_eq_left, exists_eq_left', and_assoc, exists_and_left, exists_eq', and_true, true_and, if_true, List.length_cons, List.length_nil, Option.bind_some, List.cons_append, List.nil_append, List.append_nil, f1, f2, wNotV, List.cons_append, List.nil_append, PyData.list.injEq]
  repeat (first | refine ⟨by decide, ?_⟩ | refine ⟨_, f_addL (by decide), ?_⟩)
  simp only [wiStr, wSeq, wAsg, wName, wBin, wVar, wC, wTest, wIfS, wIf, wNext, wRet, wCons, wNil, wCB, wIxK, wIxO, wPutI, wCallB, wPar, wLst, wTup, wUn, wL, wLstL, wRetL, wOr, wAnd, wNot, wOwn, wExt, wApp, wRev, wTake, wGive, wND, slotOf, wFreeze, wCall, wCallL, wCallK, wCallLK, wCallX, wCallXK, wiRng1, wiList, wiTup, wFor, wLcN, wkCl, wkApp, wYes, wgTup, wgCons, wgNil, wLend, lendD, lendS, wipeD, wPre, wWipe, forgetD, wParN, wSetN, wInS, wAddS, Md.may, T.data, Option.map_some, List.map_cons, List.map_nil, List.getElem?_cons_zero, List.getElem?_cons_succ, List.set_cons_zero, List.set_cons_succ, Option.some.injEq, Sl.d.injEq, Sl.o.injEq, T.l.injEq, T.s.injEq, T.d.injEq, PyData.int.injEq, PyData.bool.injEq, exists_eq_left, exists_eq_left', and_assoc, exists_and_left, exists_eq', and_true, true_and, if_true, List.length_cons, List.length_nil, Option.bind_some, List.cons_append, List.nil_append, List.append_nil, f1, f2, wNotV, PyData.tuple.injEq, PyData.list.injEq, PyData.str.injEq, List.cons.injEq, exists_eq_right_right, exists_eq_right, wgStar, wgLst, wSl, woNone, woSome, wOrV, wAndV, wChain, wDrop, wDisp, wDispG, wVals, lookD, xd, as0, ch, clRec, e0, e1, el, xn]
  repeat (first | exact hP | refine ⟨by decide, ?_⟩)
theorem kinds_NoNumber {fs : List (Str × PyData)} {P : PyData → Prop} (hP : P (.str "NoNumber")) : w__law_kinds (endsP P) [some (.d (excDt ⟨"NoNumber", fs⟩)), none, none, none, none, none, none] := by
  have i0 : fIsE tb_NoBase (excDt ⟨"NoNumber", fs⟩) = some (.bool false) := rfl
  have i1 : fIsE tb_NoText (excDt ⟨"NoNumber", fs⟩) = some (.bool false) := rfl
  have i2 : fIsE tb_NoRows (excDt ⟨"NoNumber", fs⟩) = some (.bool false) := rfl
  have i3 : fIsE tb_NoStand (excDt ⟨"NoNumber", fs⟩) = some (.bool false) := rfl
  have i4 : fIsE tb_NoName (excDt ⟨"NoNumber", fs⟩) = some (.bool false) := rfl
  have i5 : fIsE tb_NoNumber (excDt ⟨"NoNumber", fs⟩) = some (.bool true) := rfl
  have i6 : fIsE tb_NoHistory (excDt ⟨"NoNumber", fs⟩) = some (.bool false) := rfl
  have i7 : fIsE tb_NoCommand (excDt ⟨"NoNumber", fs⟩) = some (.bool false) := rfl
  have i8 : fIsE tb_NoPart (excDt ⟨"NoNumber", fs⟩) = some (.bool false) := rfl
  have i9 : fIsE tb_NoRun (excDt ⟨"NoNumber", fs⟩) = some (.bool false) := rfl
  have i10 : fIsE tb_NoBranch (excDt ⟨"NoNumber", fs⟩) = some (.bool false) := rfl
  have i11 : fIsE tb_NoCell (excDt ⟨"NoNumber", fs⟩) = some (.bool false) := rfl
  have i12 : fIsE tb_NoDepth (excDt ⟨"NoNumber", fs⟩) = some (.bool false) := rfl
  have i13 : fIsE tb_NoAnswer (excDt ⟨"NoNumber", fs⟩) = some (.bool false) := rfl
  have i14 : fIsE tb_NotAsked (excDt ⟨"NoNumber", fs⟩) = some (.bool false) := rfl
  have i15 : fIsE tb_Over (excDt ⟨"NoNumber", fs⟩) = some (.bool false) := rfl
  have j0 : fIsE tb_ValueError (excDt ⟨"NoNumber", fs⟩) = some (.bool true) := rfl
  have j1 : fIsE tb_KeyError (excDt ⟨"NoNumber", fs⟩) = some (.bool false) := rfl
  have j2 : fIsE tb_IndexError (excDt ⟨"NoNumber", fs⟩) = some (.bool false) := rfl
  have j3 : fIsE tb_LookupError (excDt ⟨"NoNumber", fs⟩) = some (.bool false) := rfl
  have j4 : fIsE tb_RuntimeError (excDt ⟨"NoNumber", fs⟩) = some (.bool false) := rfl
  generalize excDt ⟨"NoNumber", fs⟩ = dx at *
  have cn : fCnt (.list [.bool false, .bool false, .bool false, .bool false, .bool false, .bool true, .bool false, .bool false, .bool false, .bool false, .bool false, .bool false, .bool false, .bool false, .bool false, .bool false]) (.bool true) = some (.int 1) := by kernel_rfl
  have ix : fIdx (.list [.bool false, .bool false, .bool false, .bool false, .bool false, .bool true, .bool false, .bool false, .bool false, .bool false, .bool false, .bool false, .bool false, .bool false, .bool false, .bool false]) (.bool true) = some (.int 5) := by kernel_rfl
  have ne1 : fNe (.int 1) (.int 1) = some (.bool false) := rfl
  have r1 : fRep (.list [.str "10000"]) (.int 8) = some (.list [.str "10000", .str "10000", .str "10000", .str "10000", .str "10000", .str "10000", .str "10000", .str "10000"]) := by kernel_rfl
  have r2 : fRep (.list [.str "01010"]) (.int 2) = some (.list [.str "01010", .str "01010"]) := by kernel_rfl
  have r3 : fRep (.list [.str "00110"]) (.int 3) = some (.list [.str "00110", .str "00110", .str "00110"]) := by kernel_rfl
  have xd : fIx (.list [.str "10000", .str "10000", .str "10000", .str "10000", .str "10000", .str "10000", .str "10000", .str "10000", .str "01010", .str "01010", .str "00110", .str "00110", .str "00110", .str "00010", .str "00001", .str "00001"]) (.int 5) = some (.str "10000") := by kernel_rfl
  have xn : fIx (.list [.str "NoBase", .str "NoText", .str "NoRows", .str "NoStand", .str "NoName", .str "NoNumber", .str "NoHistory", .str "NoCommand", .str "NoPart", .str "NoRun", .str "NoBranch", .str "NoCell", .str "NoDepth", .str "NoAnswer", .str "NotAsked", .str "Over"]) (.int 5) = some (.str "NoNumber") := by kernel_rfl
  have ch : chars "10000" = [.str "1", .str "0", .str "0", .str "0", .str "0"] := rfl
  have as0 : ascC "10000" = true := by decide +kernel
  have e0 : fEq (.str "0") (.str "1") = some (.bool false) := rfl
  have e1 : fEq (.str "1") (.str "1") = some (.bool true) := rfl
  have el : fEq (.list [.bool true, .bool false, .bool false, .bool false, .bool false]) (.list [.bool true, .bool false, .bool false, .bool false, .bool false]) = some (.bool true) := by kernel_rfl
  unfold w__law_kinds
  simp only [wSeq, wAsg, wName, wBin, wVar, wC, wTest, wIfS, wIf, wNext, wRet, wCons, wNil, wCB, wIxK, wIxO, wPutI, wCallB, wPar, wLst, wTup, wUn, wL, wLstL, wRetL, wOr, wAnd, wNot, wOwn, wExt, wApp, wRev, wTake, wGive, wND, slotOf, wFreeze, wCall, wCallL, wCallK, wCallLK, wCallX, wCallXK, wiRng1, wiList, wiTup, wFor, wLcN, wkCl, wkApp, wYes, wgTup, wgCons, wgNil, wLend, lendD, lendS, wipeD, wPre, wWipe, forgetD, wParN, wSetN, wInS, wAddS, Md.may, T.data, Option.map_some, List.map_cons, List.map_nil, List.getElem?_cons_zero, List.getElem?_cons_succ, List.set_cons_zero, List.set_cons_succ, Option.some.injEq, Sl.d.injEq, Sl.o.injEq, T.l.injEq, T.s.injEq, T.d.injEq, PyData.int.injEq, PyData.bool.injEq, exists_eq_left, exists_eq_left', and_assoc, exists_and_left, exists_eq', and_true, true_and, if_true, List.length_cons, List.length_nil, Option.bind_some, List.cons_append, List.nil_append, List.append_nil, f1, f2, wNotV, i0, i1, i2, i3, i4, i5, i6, i7, i8, i9, i10, i11, i12, i13, i14, i15, j0, j1, j2, j3, j4]
  repeat (first | refine ⟨by decide, ?_⟩ | refine ⟨_, f_addL (by decide), ?_⟩)
  simp only [wM2, wSeq, wAsg, wName, wBin, wVar, wC, wTest, wIfS, wIf, wNext, wRet, wCons, wNil, wCB, wIxK, wIxO, wPutI, wCallB, wPar, wLst, wTup, wUn, wL, wLstL, wRetL, wOr, wAnd, wNot, wOwn, wExt, wApp, wRev, wTake, wGive, wND, slotOf, wFreeze, wCall, wCallL, wCallK, wCallLK, wCallX, wCallXK, wiRng1, wiList, wiTup, wFor, wLcN, wkCl, wkApp, wYes, wgTup, wgCons, wgNil, wLend, lendD, lendS, wipeD, wPre, wWipe, forgetD, wParN, wSetN, wInS, wAddS, Md.may, T.data, Option.map_some, List.map_cons, List.map_nil, List.getElem?_cons_zero, List.getElem?_cons_succ, List.set_cons_zero, List.set_cons_succ, Option.some.injEq, Sl.d.injEq, Sl.o.injEq, T.l.injEq, T.s.injEq, T.d.injEq, PyData.int.injEq, PyData.bool.injEq, exists_eq_left, exists_eq_left', and_assoc, exists_and_left, exists_eq', and_true, true_and, if_true, List.length_cons, List.length_nil, Option.bind_some, List.cons_append, List.nil_append, List.append_nil, f1, f2, wNotV, List.cons_append, List.nil_append, cn, ne1, ix, exists_eq_left', Bool.false_eq_true, if_false, PyData.list.injEq, exists_eq']
  try simp only [r1, r2, r3, wSeq, wAsg, wName, wBin, wVar, wC, wTest, wIfS, wIf, wNext, wRet, wCons, wNil, wCB, wIxK, wIxO, wPutI, wCallB, wPar, wLst, wTup, wUn, wL, wLstL, wRetL, wOr, wAnd, wNot, wOwn, wExt, wApp, wRev, wTake, wGive, wND, slotOf, wFreeze, wCall, wCallL, wCallK, wCallLK, wCallX, wCallXK, wiRng1, wiList, wiTup, wFor, wLcN, wkCl, wkApp, wYes, wgTup, wgCons, wgNil, wLend, lendD, lendS, wipeD, wPre, wWipe, forgetD, wParN, wSetN, wInS, wAddS, Md.may, T.data, Option.map_some, List.map_cons, List.map_nil, List.getElem?_cons_zero, List.getElem?_cons_succ, List.set_cons_zero, List.set_cons_succ, Option.some.injEq, Sl.d.injEq, Sl.o.injEq, T.l.injEq, T.s.injEq, T.d.injEq, PyData.int.injEq, PyData.bool.injEq, exists_eq_left, exists_eq_left', and_assoc, exists_and_left, exists_eq', and_true, true_and, if_true, List.length_cons, List.length_nil, Option.bind_some, List.cons_append, List.nil_append, List.append_nil, f1, f2, wNotV, List.cons_append, List.nil_append, PyData.list.injEq]
  repeat (first | refine ⟨by decide, ?_⟩ | refine ⟨_, f_addL (by decide), ?_⟩)
  simp only [wiStr, wSeq, wAsg, wName, wBin, wVar, wC, wTest, wIfS, wIf, wNext, wRet, wCons, wNil, wCB, wIxK, wIxO, wPutI, wCallB, wPar, wLst, wTup, wUn, wL, wLstL, wRetL, wOr, wAnd, wNot, wOwn, wExt, wApp, wRev, wTake, wGive, wND, slotOf, wFreeze, wCall, wCallL, wCallK, wCallLK, wCallX, wCallXK, wiRng1, wiList, wiTup, wFor, wLcN, wkCl, wkApp, wYes, wgTup, wgCons, wgNil, wLend, lendD, lendS, wipeD, wPre, wWipe, forgetD, wParN, wSetN, wInS, wAddS, Md.may, T.data, Option.map_some, List.map_cons, List.map_nil, List.getElem?_cons_zero, List.getElem?_cons_succ, List.set_cons_zero, List.set_cons_succ, Option.some.injEq, Sl.d.injEq, Sl.o.injEq, T.l.injEq, T.s.injEq, T.d.injEq, PyData.int.injEq, PyData.bool.injEq, exists_eq_left, exists_eq_left', and_assoc, exists_and_left, exists_eq', and_true, true_and, if_true, List.length_cons, List.length_nil, Option.bind_some, List.cons_append, List.nil_append, List.append_nil, f1, f2, wNotV, PyData.tuple.injEq, PyData.list.injEq, PyData.str.injEq, List.cons.injEq, exists_eq_right_right, exists_eq_right, wgStar, wgLst, wSl, woNone, woSome, wOrV, wAndV, wChain, wDrop, wDisp, wDispG, wVals, lookD, xd, as0, ch, clRec, e0, e1, el, xn]
  repeat (first | exact hP | refine ⟨by decide, ?_⟩)
theorem kinds_NoHistory {fs : List (Str × PyData)} {P : PyData → Prop} (hP : P (.str "NoHistory")) : w__law_kinds (endsP P) [some (.d (excDt ⟨"NoHistory", fs⟩)), none, none, none, none, none, none] := by
  have i0 : fIsE tb_NoBase (excDt ⟨"NoHistory", fs⟩) = some (.bool false) := rfl
  have i1 : fIsE tb_NoText (excDt ⟨"NoHistory", fs⟩) = some (.bool false) := rfl
  have i2 : fIsE tb_NoRows (excDt ⟨"NoHistory", fs⟩) = some (.bool false) := rfl
  have i3 : fIsE tb_NoStand (excDt ⟨"NoHistory", fs⟩) = some (.bool false) := rfl
  have i4 : fIsE tb_NoName (excDt ⟨"NoHistory", fs⟩) = some (.bool false) := rfl
  have i5 : fIsE tb_NoNumber (excDt ⟨"NoHistory", fs⟩) = some (.bool false) := rfl
  have i6 : fIsE tb_NoHistory (excDt ⟨"NoHistory", fs⟩) = some (.bool true) := rfl
  have i7 : fIsE tb_NoCommand (excDt ⟨"NoHistory", fs⟩) = some (.bool false) := rfl
  have i8 : fIsE tb_NoPart (excDt ⟨"NoHistory", fs⟩) = some (.bool false) := rfl
  have i9 : fIsE tb_NoRun (excDt ⟨"NoHistory", fs⟩) = some (.bool false) := rfl
  have i10 : fIsE tb_NoBranch (excDt ⟨"NoHistory", fs⟩) = some (.bool false) := rfl
  have i11 : fIsE tb_NoCell (excDt ⟨"NoHistory", fs⟩) = some (.bool false) := rfl
  have i12 : fIsE tb_NoDepth (excDt ⟨"NoHistory", fs⟩) = some (.bool false) := rfl
  have i13 : fIsE tb_NoAnswer (excDt ⟨"NoHistory", fs⟩) = some (.bool false) := rfl
  have i14 : fIsE tb_NotAsked (excDt ⟨"NoHistory", fs⟩) = some (.bool false) := rfl
  have i15 : fIsE tb_Over (excDt ⟨"NoHistory", fs⟩) = some (.bool false) := rfl
  have j0 : fIsE tb_ValueError (excDt ⟨"NoHistory", fs⟩) = some (.bool true) := rfl
  have j1 : fIsE tb_KeyError (excDt ⟨"NoHistory", fs⟩) = some (.bool false) := rfl
  have j2 : fIsE tb_IndexError (excDt ⟨"NoHistory", fs⟩) = some (.bool false) := rfl
  have j3 : fIsE tb_LookupError (excDt ⟨"NoHistory", fs⟩) = some (.bool false) := rfl
  have j4 : fIsE tb_RuntimeError (excDt ⟨"NoHistory", fs⟩) = some (.bool false) := rfl
  generalize excDt ⟨"NoHistory", fs⟩ = dx at *
  have cn : fCnt (.list [.bool false, .bool false, .bool false, .bool false, .bool false, .bool false, .bool true, .bool false, .bool false, .bool false, .bool false, .bool false, .bool false, .bool false, .bool false, .bool false]) (.bool true) = some (.int 1) := by kernel_rfl
  have ix : fIdx (.list [.bool false, .bool false, .bool false, .bool false, .bool false, .bool false, .bool true, .bool false, .bool false, .bool false, .bool false, .bool false, .bool false, .bool false, .bool false, .bool false]) (.bool true) = some (.int 6) := by kernel_rfl
  have ne1 : fNe (.int 1) (.int 1) = some (.bool false) := rfl
  have r1 : fRep (.list [.str "10000"]) (.int 8) = some (.list [.str "10000", .str "10000", .str "10000", .str "10000", .str "10000", .str "10000", .str "10000", .str "10000"]) := by kernel_rfl
  have r2 : fRep (.list [.str "01010"]) (.int 2) = some (.list [.str "01010", .str "01010"]) := by kernel_rfl
  have r3 : fRep (.list [.str "00110"]) (.int 3) = some (.list [.str "00110", .str "00110", .str "00110"]) := by kernel_rfl
  have xd : fIx (.list [.str "10000", .str "10000", .str "10000", .str "10000", .str "10000", .str "10000", .str "10000", .str "10000", .str "01010", .str "01010", .str "00110", .str "00110", .str "00110", .str "00010", .str "00001", .str "00001"]) (.int 6) = some (.str "10000") := by kernel_rfl
  have xn : fIx (.list [.str "NoBase", .str "NoText", .str "NoRows", .str "NoStand", .str "NoName", .str "NoNumber", .str "NoHistory", .str "NoCommand", .str "NoPart", .str "NoRun", .str "NoBranch", .str "NoCell", .str "NoDepth", .str "NoAnswer", .str "NotAsked", .str "Over"]) (.int 6) = some (.str "NoHistory") := by kernel_rfl
  have ch : chars "10000" = [.str "1", .str "0", .str "0", .str "0", .str "0"] := rfl
  have as0 : ascC "10000" = true := by decide +kernel
  have e0 : fEq (.str "0") (.str "1") = some (.bool false) := rfl
  have e1 : fEq (.str "1") (.str "1") = some (.bool true) := rfl
  have el : fEq (.list [.bool true, .bool false, .bool false, .bool false, .bool false]) (.list [.bool true, .bool false, .bool false, .bool false, .bool false]) = some (.bool true) := by kernel_rfl
  unfold w__law_kinds
  simp only [wSeq, wAsg, wName, wBin, wVar, wC, wTest, wIfS, wIf, wNext, wRet, wCons, wNil, wCB, wIxK, wIxO, wPutI, wCallB, wPar, wLst, wTup, wUn, wL, wLstL, wRetL, wOr, wAnd, wNot, wOwn, wExt, wApp, wRev, wTake, wGive, wND, slotOf, wFreeze, wCall, wCallL, wCallK, wCallLK, wCallX, wCallXK, wiRng1, wiList, wiTup, wFor, wLcN, wkCl, wkApp, wYes, wgTup, wgCons, wgNil, wLend, lendD, lendS, wipeD, wPre, wWipe, forgetD, wParN, wSetN, wInS, wAddS, Md.may, T.data, Option.map_some, List.map_cons, List.map_nil, List.getElem?_cons_zero, List.getElem?_cons_succ, List.set_cons_zero, List.set_cons_succ, Option.some.injEq, Sl.d.injEq, Sl.o.injEq, T.l.injEq, T.s.injEq, T.d.injEq, PyData.int.injEq, PyData.bool.injEq, exists_eq_left, exists_eq_left', and_assoc, exists_and_left, exists_eq', and_true, true_and, if_true, List.length_cons, List.length_nil, Option.bind_some, List.cons_append, List.nil_append, List.append_nil, f1, f2, wNotV, i0, i1, i2, i3, i4, i5, i6, i7, i8, i9, i10, i11, i12, i13, i14, i15, j0, j1, j2, j3, j4]
  repeat (first | refine ⟨by decide, ?_⟩ | refine ⟨_, f_addL (by decide), ?_⟩)
  simp only [wM2, wSeq, wAsg, wName, wBin, wVar, wC, wTest, wIfS, wIf, wNext, wRet, wCons, wNil, wCB, wIxK, wIxO, wPutI, wCallB, wPar, wLst, wTup, wUn, wL, wLstL, wRetL, wOr, wAnd, wNot, wOwn, wExt, wApp, wRev, wTake, wGive, wND, slotOf, wFreeze, wCall, wCallL, wCallK, wCallLK, wCallX, wCallXK, wiRng1, wiList, wiTup, wFor, wLcN, wkCl, wkApp, wYes, wgTup, wgCons, wgNil, wLend, lendD, lendS, wipeD, wPre, wWipe, forgetD, wParN, wSetN, wInS, wAddS, Md.may, T.data, Option.map_some, List.map_cons, List.map_nil, List.getElem?_cons_zero, List.getElem?_cons_succ, List.set_cons_zero, List.set_cons_succ, Option.some.injEq, Sl.d.injEq, Sl.o.injEq, T.l.injEq, T.s.injEq, T.d.injEq, PyData.int.injEq, PyData.bool.injEq, exists_eq_left, exists_eq_left', and_assoc, exists_and_left, exists_eq', and_true, true_and, if_true, List.length_cons, List.length_nil, Option.bind_some, List.cons_append, List.nil_append, List.append_nil, f1, f2, wNotV, List.cons_append, List.nil_append, cn, ne1, ix, exists_eq_left', Bool.false_eq_true, if_false, PyData.list.injEq, exists_eq']
  try simp only [r1, r2, r3, wSeq, wAsg, wName, wBin, wVar, wC, wTest, wIfS, wIf, wNext, wRet, wCons, wNil, wCB, wIxK, wIxO, wPutI, wCallB, wPar, wLst, wTup, wUn, wL, wLstL, wRetL, wOr, wAnd, wNot, wOwn, wExt, wApp, wRev, wTake, wGive, wND, slotOf, wFreeze, wCall, wCallL, wCallK, wCallLK, wCallX, wCallXK, wiRng1, wiList, wiTup, wFor, wLcN, wkCl, wkApp, wYes, wgTup, wgCons, wgNil, wLend, lendD, lendS, wipeD, wPre, wWipe, forgetD, wParN, wSetN, wInS, wAddS, Md.may, T.data, Option.map_some, List.map_cons, List.map_nil, List.getElem?_cons_zero, List.getElem?_cons_succ, List.set_cons_zero, List.set_cons_succ, Option.some.injEq, Sl.d.injEq, Sl.o.injEq, T.l.injEq, T.s.injEq, T.d.injEq, PyData.int.injEq, PyData.bool.injEq, exists_eq_left, exists_eq_left', and_assoc, exists_and_left, exists_eq', and_true, true_and, if_true, List.length_cons, List.length_nil, Option.bind_some, List.cons_append, List.nil_append, List.append_nil, f1, f2, wNotV, List.cons_append, List.nil_append, PyData.list.injEq]
  repeat (first | refine ⟨by decide, ?_⟩ | refine ⟨_, f_addL (by decide), ?_⟩)
  simp only [wiStr, wSeq, wAsg, wName, wBin, wVar, wC, wTest, wIfS, wIf, wNext, wRet, wCons, wNil, wCB, wIxK, wIxO, wPutI, wCallB, wPar, wLst, wTup, wUn, wL, wLstL, wRetL, wOr, wAnd, wNot, wOwn, wExt, wApp, wRev, wTake, wGive, wND, slotOf, wFreeze, wCall, wCallL, wCallK, wCallLK, wCallX, wCallXK, wiRng1, wiList, wiTup, wFor, wLcN, wkCl, wkApp, wYes, wgTup, wgCons, wgNil, wLend, lendD, lendS, wipeD, wPre, wWipe, forgetD, wParN, wSetN, wInS, wAddS, Md.may, T.data, Option.map_some, List.map_cons, List.map_nil, List.getElem?_cons_zero, List.getElem?_cons_succ, List.set_cons_zero, List.set_cons_succ, Option.some.injEq, Sl.d.injEq, Sl.o.injEq, T.l.injEq, T.s.injEq, T.d.injEq, PyData.int.injEq, PyData.bool.injEq, exists_eq_left, exists_eq_left', and_assoc, exists_and_left, exists_eq', and_true, true_and, if_true, List.length_cons, List.length_nil, Option.bind_some, List.cons_append, List.nil_append, List.append_nil, f1, f2, wNotV, PyData.tuple.injEq, PyData.list.injEq, PyData.str.injEq, List.cons.injEq, exists_eq_right_right, exists_eq_right, wgStar, wgLst, wSl, woNone, woSome, wOrV, wAndV, wChain, wDrop, wDisp, wDispG, wVals, lookD, xd, as0, ch, clRec, e0, e1, el, xn]
  repeat (first | exact hP | refine ⟨by decide, ?_⟩)
theorem kinds_NoCommand {fs : List (Str × PyData)} {P : PyData → Prop} (hP : P (.str "NoCommand")) : w__law_kinds (endsP P) [some (.d (excDt ⟨"NoCommand", fs⟩)), none, none, none, none, none, none] := by
  have i0 : fIsE tb_NoBase (excDt ⟨"NoCommand", fs⟩) = some (.bool false) := rfl
  have i1 : fIsE tb_NoText (excDt ⟨"NoCommand", fs⟩) = some (.bool false) := rfl
  have i2 : fIsE tb_NoRows (excDt ⟨"NoCommand", fs⟩) = some (.bool false) := rfl
  have i3 : fIsE tb_NoStand (excDt ⟨"NoCommand", fs⟩) = some (.bool false) := rfl
  have i4 : fIsE tb_NoName (excDt ⟨"NoCommand", fs⟩) = some (.bool false) := rfl
  have i5 : fIsE tb_NoNumber (excDt ⟨"NoCommand", fs⟩) = some (.bool false) := rfl
  have i6 : fIsE tb_NoHistory (excDt ⟨"NoCommand", fs⟩) = some (.bool false) := rfl
  have i7 : fIsE tb_NoCommand (excDt ⟨"NoCommand", fs⟩) = some (.bool true) := rfl
  have i8 : fIsE tb_NoPart (excDt ⟨"NoCommand", fs⟩) = some (.bool false) := rfl
  have i9 : fIsE tb_NoRun (excDt ⟨"NoCommand", fs⟩) = some (.bool false) := rfl
  have i10 : fIsE tb_NoBranch (excDt ⟨"NoCommand", fs⟩) = some (.bool false) := rfl
  have i11 : fIsE tb_NoCell (excDt ⟨"NoCommand", fs⟩) = some (.bool false) := rfl
  have i12 : fIsE tb_NoDepth (excDt ⟨"NoCommand", fs⟩) = some (.bool false) := rfl
  have i13 : fIsE tb_NoAnswer (excDt ⟨"NoCommand", fs⟩) = some (.bool false) := rfl
  have i14 : fIsE tb_NotAsked (excDt ⟨"NoCommand", fs⟩) = some (.bool false) := rfl
  have i15 : fIsE tb_Over (excDt ⟨"NoCommand", fs⟩) = some (.bool false) := rfl
  have j0 : fIsE tb_ValueError (excDt ⟨"NoCommand", fs⟩) = some (.bool true) := rfl
  have j1 : fIsE tb_KeyError (excDt ⟨"NoCommand", fs⟩) = some (.bool false) := rfl
  have j2 : fIsE tb_IndexError (excDt ⟨"NoCommand", fs⟩) = some (.bool false) := rfl
  have j3 : fIsE tb_LookupError (excDt ⟨"NoCommand", fs⟩) = some (.bool false) := rfl
  have j4 : fIsE tb_RuntimeError (excDt ⟨"NoCommand", fs⟩) = some (.bool false) := rfl
  generalize excDt ⟨"NoCommand", fs⟩ = dx at *
  have cn : fCnt (.list [.bool false, .bool false, .bool false, .bool false, .bool false, .bool false, .bool false, .bool true, .bool false, .bool false, .bool false, .bool false, .bool false, .bool false, .bool false, .bool false]) (.bool true) = some (.int 1) := by kernel_rfl
  have ix : fIdx (.list [.bool false, .bool false, .bool false, .bool false, .bool false, .bool false, .bool false, .bool true, .bool false, .bool false, .bool false, .bool false, .bool false, .bool false, .bool false, .bool false]) (.bool true) = some (.int 7) := by kernel_rfl
  have ne1 : fNe (.int 1) (.int 1) = some (.bool false) := rfl
  have r1 : fRep (.list [.str "10000"]) (.int 8) = some (.list [.str "10000", .str "10000", .str "10000", .str "10000", .str "10000", .str "10000", .str "10000", .str "10000"]) := by kernel_rfl
  have r2 : fRep (.list [.str "01010"]) (.int 2) = some (.list [.str "01010", .str "01010"]) := by kernel_rfl
  have r3 : fRep (.list [.str "00110"]) (.int 3) = some (.list [.str "00110", .str "00110", .str "00110"]) := by kernel_rfl
  have xd : fIx (.list [.str "10000", .str "10000", .str "10000", .str "10000", .str "10000", .str "10000", .str "10000", .str "10000", .str "01010", .str "01010", .str "00110", .str "00110", .str "00110", .str "00010", .str "00001", .str "00001"]) (.int 7) = some (.str "10000") := by kernel_rfl
  have xn : fIx (.list [.str "NoBase", .str "NoText", .str "NoRows", .str "NoStand", .str "NoName", .str "NoNumber", .str "NoHistory", .str "NoCommand", .str "NoPart", .str "NoRun", .str "NoBranch", .str "NoCell", .str "NoDepth", .str "NoAnswer", .str "NotAsked", .str "Over"]) (.int 7) = some (.str "NoCommand") := by kernel_rfl
  have ch : chars "10000" = [.str "1", .str "0", .str "0", .str "0", .str "0"] := rfl
  have as0 : ascC "10000" = true := by decide +kernel
  have e0 : fEq (.str "0") (.str "1") = some (.bool false) := rfl
  have e1 : fEq (.str "1") (.str "1") = some (.bool true) := rfl
  have el : fEq (.list [.bool true, .bool false, .bool false, .bool false, .bool false]) (.list [.bool true, .bool false, .bool false, .bool false, .bool false]) = some (.bool true) := by kernel_rfl
  unfold w__law_kinds
  simp only [wSeq, wAsg, wName, wBin, wVar, wC, wTest, wIfS, wIf, wNext, wRet, wCons, wNil, wCB, wIxK, wIxO, wPutI, wCallB, wPar, wLst, wTup, wUn, wL, wLstL, wRetL, wOr, wAnd, wNot, wOwn, wExt, wApp, wRev, wTake, wGive, wND, slotOf, wFreeze, wCall, wCallL, wCallK, wCallLK, wCallX, wCallXK, wiRng1, wiList, wiTup, wFor, wLcN, wkCl, wkApp, wYes, wgTup, wgCons, wgNil, wLend, lendD, lendS, wipeD, wPre, wWipe, forgetD, wParN, wSetN, wInS, wAddS, Md.may, T.data, Option.map_some, List.map_cons, List.map_nil, List.getElem?_cons_zero, List.getElem?_cons_succ, List.set_cons_zero, List.set_cons_succ, Option.some.injEq, Sl.d.injEq, Sl.o.injEq, T.l.injEq, T.s.injEq, T.d.injEq, PyData.int.injEq, PyData.bool.injEq, exists_eq_left, exists_eq_left', and_assoc, exists_and_left, exists_eq', and_true, true_and, if_true, List.length_cons, List.length_nil, Option.bind_some, List.cons_append, List.nil_append, List.append_nil, f1, f2, wNotV, i0, i1, i2, i3, i4, i5, i6, i7, i8, i9, i10, i11, i12, i13, i14, i15, j0, j1, j2, j3, j4]
  repeat (first | refine ⟨by decide, ?_⟩ | refine ⟨_, f_addL (by decide), ?_⟩)
  simp only [wM2, wSeq, wAsg, wName, wBin, wVar, wC, wTest, wIfS, wIf, wNext, wRet, wCons, wNil, wCB, wIxK, wIxO, wPutI, wCallB, wPar, wLst, wTup, wUn, wL, wLstL, wRetL, wOr, wAnd, wNot, wOwn, wExt, wApp, wRev, wTake, wGive, wND, slotOf, wFreeze, wCall, wCallL, wCallK, wCallLK, wCallX, wCallXK, wiRng1, wiList, wiTup, wFor, wLcN, wkCl, wkApp, wYes, wgTup, wgCons, wgNil, wLend, lendD, lendS, wipeD, wPre, wWipe, forgetD, wParN, wSetN, wInS, wAddS, Md.may, T.data, Option.map_some, List.map_cons, List.map_nil, List.getElem?_cons_zero, List.getElem?_cons_succ, List.set_cons_zero, List.set_cons_succ, Option.some.injEq, Sl.d.injEq, Sl.o.injEq, T.l.injEq, T.s.injEq, T.d.injEq, PyData.int.injEq, PyData.bool.injEq, exists_eq_left, exists_eq_left', and_assoc, exists_and_left, exists_eq', and_true, true_and, if_true, List.length_cons, List.length_nil, Option.bind_some, List.cons_append, List.nil_append, List.append_nil, f1, f2, wNotV, List.cons_append, List.nil_append, cn, ne1, ix, exists_eq_left', Bool.false_eq_true, if_false, PyData.list.injEq, exists_eq']
  try simp only [r1, r2, r3, wSeq, wAsg, wName, wBin, wVar, wC, wTest, wIfS, wIf, wNext, wRet, wCons, wNil, wCB, wIxK, wIxO, wPutI, wCallB, wPar, wLst, wTup, wUn, wL, wLstL, wRetL, wOr, wAnd, wNot, wOwn, wExt, wApp, wRev, wTake, wGive, wND, slotOf, wFreeze, wCall, wCallL, wCallK, wCallLK, wCallX, wCallXK, wiRng1, wiList, wiTup, wFor, wLcN, wkCl, wkApp, wYes, wgTup, wgCons, wgNil, wLend, lendD, lendS, wipeD, wPre, wWipe, forgetD, wParN, wSetN, wInS, wAddS, Md.may, T.data, Option.map_some, List.map_cons, List.map_nil, List.getElem?_cons_zero, List.getElem?_cons_succ, List.set_cons_zero, List.set_cons_succ, Option.some.injEq, Sl.d.injEq, Sl.o.injEq, T.l.injEq, T.s.injEq, T.d.injEq, PyData.int.injEq, PyData.bool.injEq, exists_eq_left, exists_eq_left', and_assoc, exists_and_left, exists_eq', and_true, true_and, if_true, List.length_cons, List.length_nil, Option.bind_some, List.cons_append, List.nil_append, List.append_nil, f1, f2, wNotV, List.cons_append, List.nil_append, PyData.list.injEq]
  repeat (first | refine ⟨by decide, ?_⟩ | refine ⟨_, f_addL (by decide), ?_⟩)
  simp only [wiStr, wSeq, wAsg, wName, wBin, wVar, wC, wTest, wIfS, wIf, wNext, wRet, wCons, wNil, wCB, wIxK, wIxO, wPutI, wCallB, wPar, wLst, wTup, wUn, wL, wLstL, wRetL, wOr, wAnd, wNot, wOwn, wExt, wApp, wRev, wTake, wGive, wND, slotOf, wFreeze, wCall, wCallL, wCallK, wCallLK, wCallX, wCallXK, wiRng1, wiList, wiTup, wFor, wLcN, wkCl, wkApp, wYes, wgTup, wgCons, wgNil, wLend, lendD, lendS, wipeD, wPre, wWipe, forgetD, wParN, wSetN, wInS, wAddS, Md.may, T.data, Option.map_some, List.map_cons, List.map_nil, List.getElem?_cons_zero, List.getElem?_cons_succ, List.set_cons_zero, List.set_cons_succ, Option.some.injEq, Sl.d.injEq, Sl.o.injEq, T.l.injEq, T.s.injEq, T.d.injEq, PyData.int.injEq, PyData.bool.injEq, exists_eq_left, exists_eq_left', and_assoc, exists_and_left, exists_eq', and_true, true_and, if_true, List.length_cons, List.length_nil, Option.bind_some, List.cons_append, List.nil_append, List.append_nil, f1, f2, wNotV, PyData.tuple.injEq, PyData.list.injEq, PyData.str.injEq, List.cons.injEq, exists_eq_right_right, exists_eq_right, wgStar, wgLst, wSl, woNone, woSome, wOrV, wAndV, wChain, wDrop, wDisp, wDispG, wVals, lookD, xd, as0, ch, clRec, e0, e1, el, xn]
  repeat (first | exact hP | refine ⟨by decide, ?_⟩)
theorem kinds_NoPart {fs : List (Str × PyData)} {P : PyData → Prop} (hP : P (.str "NoPart")) : w__law_kinds (endsP P) [some (.d (excDt ⟨"NoPart", fs⟩)), none, none, none, none, none, none] := by
  have i0 : fIsE tb_NoBase (excDt ⟨"NoPart", fs⟩) = some (.bool false) := rfl
  have i1 : fIsE tb_NoText (excDt ⟨"NoPart", fs⟩) = some (.bool false) := rfl
  have i2 : fIsE tb_NoRows (excDt ⟨"NoPart", fs⟩) = some (.bool false) := rfl
  have i3 : fIsE tb_NoStand (excDt ⟨"NoPart", fs⟩) = some (.bool false) := rfl
  have i4 : fIsE tb_NoName (excDt ⟨"NoPart", fs⟩) = some (.bool false) := rfl
  have i5 : fIsE tb_NoNumber (excDt ⟨"NoPart", fs⟩) = some (.bool false) := rfl
  have i6 : fIsE tb_NoHistory (excDt ⟨"NoPart", fs⟩) = some (.bool false) := rfl
  have i7 : fIsE tb_NoCommand (excDt ⟨"NoPart", fs⟩) = some (.bool false) := rfl
  have i8 : fIsE tb_NoPart (excDt ⟨"NoPart", fs⟩) = some (.bool true) := rfl
  have i9 : fIsE tb_NoRun (excDt ⟨"NoPart", fs⟩) = some (.bool false) := rfl
  have i10 : fIsE tb_NoBranch (excDt ⟨"NoPart", fs⟩) = some (.bool false) := rfl
  have i11 : fIsE tb_NoCell (excDt ⟨"NoPart", fs⟩) = some (.bool false) := rfl
  have i12 : fIsE tb_NoDepth (excDt ⟨"NoPart", fs⟩) = some (.bool false) := rfl
  have i13 : fIsE tb_NoAnswer (excDt ⟨"NoPart", fs⟩) = some (.bool false) := rfl
  have i14 : fIsE tb_NotAsked (excDt ⟨"NoPart", fs⟩) = some (.bool false) := rfl
  have i15 : fIsE tb_Over (excDt ⟨"NoPart", fs⟩) = some (.bool false) := rfl
  have j0 : fIsE tb_ValueError (excDt ⟨"NoPart", fs⟩) = some (.bool false) := rfl
  have j1 : fIsE tb_KeyError (excDt ⟨"NoPart", fs⟩) = some (.bool true) := rfl
  have j2 : fIsE tb_IndexError (excDt ⟨"NoPart", fs⟩) = some (.bool false) := rfl
  have j3 : fIsE tb_LookupError (excDt ⟨"NoPart", fs⟩) = some (.bool true) := rfl
  have j4 : fIsE tb_RuntimeError (excDt ⟨"NoPart", fs⟩) = some (.bool false) := rfl
  generalize excDt ⟨"NoPart", fs⟩ = dx at *
  have cn : fCnt (.list [.bool false, .bool false, .bool false, .bool false, .bool false, .bool false, .bool false, .bool false, .bool true, .bool false, .bool false, .bool false, .bool false, .bool false, .bool false, .bool false]) (.bool true) = some (.int 1) := by kernel_rfl
  have ix : fIdx (.list [.bool false, .bool false, .bool false, .bool false, .bool false, .bool false, .bool false, .bool false, .bool true, .bool false, .bool false, .bool false, .bool false, .bool false, .bool false, .bool false]) (.bool true) = some (.int 8) := by kernel_rfl
  have ne1 : fNe (.int 1) (.int 1) = some (.bool false) := rfl
  have r1 : fRep (.list [.str "10000"]) (.int 8) = some (.list [.str "10000", .str "10000", .str "10000", .str "10000", .str "10000", .str "10000", .str "10000", .str "10000"]) := by kernel_rfl
  have r2 : fRep (.list [.str "01010"]) (.int 2) = some (.list [.str "01010", .str "01010"]) := by kernel_rfl
  have r3 : fRep (.list [.str "00110"]) (.int 3) = some (.list [.str "00110", .str "00110", .str "00110"]) := by kernel_rfl
  have xd : fIx (.list [.str "10000", .str "10000", .str "10000", .str "10000", .str "10000", .str "10000", .str "10000", .str "10000", .str "01010", .str "01010", .str "00110", .str "00110", .str "00110", .str "00010", .str "00001", .str "00001"]) (.int 8) = some (.str "01010") := by kernel_rfl
  have xn : fIx (.list [.str "NoBase", .str "NoText", .str "NoRows", .str "NoStand", .str "NoName", .str "NoNumber", .str "NoHistory", .str "NoCommand", .str "NoPart", .str "NoRun", .str "NoBranch", .str "NoCell", .str "NoDepth", .str "NoAnswer", .str "NotAsked", .str "Over"]) (.int 8) = some (.str "NoPart") := by kernel_rfl
  have ch : chars "01010" = [.str "0", .str "1", .str "0", .str "1", .str "0"] := rfl
  have as0 : ascC "01010" = true := by decide +kernel
  have e0 : fEq (.str "0") (.str "1") = some (.bool false) := rfl
  have e1 : fEq (.str "1") (.str "1") = some (.bool true) := rfl
  have el : fEq (.list [.bool false, .bool true, .bool false, .bool true, .bool false]) (.list [.bool false, .bool true, .bool false, .bool true, .bool false]) = some (.bool true) := by kernel_rfl
  unfold w__law_kinds
  simp only [wSeq, wAsg, wName, wBin, wVar, wC, wTest, wIfS, wIf, wNext, wRet, wCons, wNil, wCB, wIxK, wIxO, wPutI, wCallB, wPar, wLst, wTup, wUn, wL, wLstL, wRetL, wOr, wAnd, wNot, wOwn, wExt, wApp, wRev, wTake, wGive, wND, slotOf, wFreeze, wCall, wCallL, wCallK, wCallLK, wCallX, wCallXK, wiRng1, wiList, wiTup, wFor, wLcN, wkCl, wkApp, wYes, wgTup, wgCons, wgNil, wLend, lendD, lendS, wipeD, wPre, wWipe, forgetD, wParN, wSetN, wInS, wAddS, Md.may, T.data, Option.map_some, List.map_cons, List.map_nil, List.getElem?_cons_zero, List.getElem?_cons_succ, List.set_cons_zero, List.set_cons_succ, Option.some.injEq, Sl.d.injEq, Sl.o.injEq, T.l.injEq, T.s.injEq, T.d.injEq, PyData.int.injEq, PyData.bool.injEq, exists_eq_left, exists_eq_left', and_assoc, exists_and_left, exists_eq', and_true, true_and, if_true, List.length_cons, List.length_nil, Option.bind_some, List.cons_append, List.nil_append, List.append_nil, f1, f2, wNotV, i0, i1, i2, i3, i4, i5, i6, i7, i8, i9, i10, i11, i12, i13, i14, i15, j0, j1, j2, j3, j4]
  repeat (first | refine ⟨by decide, ?_⟩ | refine ⟨_, f_addL (by decide), ?_⟩)
  simp only [wM2, wSeq, wAsg, wName, wBin, wVar, wC, wTest, wIfS, wIf, wNext, wRet, wCons, wNil, wCB, wIxK, wIxO, wPutI, wCallB, wPar, wLst, wTup, wUn, wL, wLstL, wRetL, wOr, wAnd, wNot, wOwn, wExt, wApp, wRev, wTake, wGive, wND, slotOf, wFreeze, wCall, wCallL, wCallK, wCallLK, wCallX, wCallXK, wiRng1, wiList, wiTup, wFor, wLcN, wkCl, wkApp, wYes, wgTup, wgCons, wgNil, wLend, lendD, lendS, wipeD, wPre, wWipe, forgetD, wParN, wSetN, wInS, wAddS, Md.may, T.data, Option.map_some, List.map_cons, List.map_nil, List.getElem?_cons_zero, List.getElem?_cons_succ, List.set_cons_zero, List.set_cons_succ, Option.some.injEq, Sl.d.injEq, Sl.o.injEq, T.l.injEq, T.s.injEq, T.d.injEq, PyData.int.injEq, PyData.bool.injEq, exists_eq_left, exists_eq_left', and_assoc, exists_and_left, exists_eq', and_true, true_and, if_true, List.length_cons, List.length_nil, Option.bind_some, List.cons_append, List.nil_append, List.append_nil, f1, f2, wNotV, List.cons_append, List.nil_append, cn, ne1, ix, exists_eq_left', Bool.false_eq_true, if_false, PyData.list.injEq, exists_eq']
  try simp only [r1, r2, r3, wSeq, wAsg, wName, wBin, wVar, wC, wTest, wIfS, wIf, wNext, wRet, wCons, wNil, wCB, wIxK, wIxO, wPutI, wCallB, wPar, wLst, wTup, wUn, wL, wLstL, wRetL, wOr, wAnd, wNot, wOwn, wExt, wApp, wRev, wTake, wGive, wND, slotOf, wFreeze, wCall, wCallL, wCallK, wCallLK, wCallX, wCallXK, wiRng1, wiList, wiTup, wFor, wLcN, wkCl, wkApp, wYes, wgTup, wgCons, wgNil, wLend, lendD, lendS, wipeD, wPre, wWipe, forgetD, wParN, wSetN, wInS, wAddS, Md.may, T.data, Option.map_some, List.map_cons, List.map_nil, List.getElem?_cons_zero, List.getElem?_cons_succ, List.set_cons_zero, List.set_cons_succ, Option.some.injEq, Sl.d.injEq, Sl.o.injEq, T.l.injEq, T.s.injEq, T.d.injEq, PyData.int.injEq, PyData.bool.injEq, exists_eq_left, exists_eq_left', and_assoc, exists_and_left, exists_eq', and_true, true_and, if_true, List.length_cons, List.length_nil, Option.bind_some, List.cons_append, List.nil_append, List.append_nil, f1, f2, wNotV, List.cons_append, List.nil_append, PyData.list.injEq]
  repeat (first | refine ⟨by decide, ?_⟩ | refine ⟨_, f_addL (by decide), ?_⟩)
  simp only [wiStr, wSeq, wAsg, wName, wBin, wVar, wC, wTest, wIfS, wIf, wNext, wRet, wCons, wNil, wCB, wIxK, wIxO, wPutI, wCallB, wPar, wLst, wTup, wUn, wL, wLstL, wRetL, wOr, wAnd, wNot, wOwn, wExt, wApp, wRev, wTake, wGive, wND, slotOf, wFreeze, wCall, wCallL, wCallK, wCallLK, wCallX, wCallXK, wiRng1, wiList, wiTup, wFor, wLcN, wkCl, wkApp, wYes, wgTup, wgCons, wgNil, wLend, lendD, lendS, wipeD, wPre, wWipe, forgetD, wParN, wSetN, wInS, wAddS, Md.may, T.data, Option.map_some, List.map_cons, List.map_nil, List.getElem?_cons_zero, List.getElem?_cons_succ, List.set_cons_zero, List.set_cons_succ, Option.some.injEq, Sl.d.injEq, Sl.o.injEq, T.l.injEq, T.s.injEq, T.d.injEq, PyData.int.injEq, PyData.bool.injEq, exists_eq_left, exists_eq_left', and_assoc, exists_and_left, exists_eq', and_true, true_and, if_true, List.length_cons, List.length_nil, Option.bind_some, List.cons_append, List.nil_append, List.append_nil, f1, f2, wNotV, PyData.tuple.injEq, PyData.list.injEq, PyData.str.injEq, List.cons.injEq, exists_eq_right_right, exists_eq_right, wgStar, wgLst, wSl, woNone, woSome, wOrV, wAndV, wChain, wDrop, wDisp, wDispG, wVals, lookD, xd, as0, ch, clRec, e0, e1, el, xn]
  repeat (first | exact hP | refine ⟨by decide, ?_⟩)
theorem kinds_NoRun {fs : List (Str × PyData)} {P : PyData → Prop} (hP : P (.str "NoRun")) : w__law_kinds (endsP P) [some (.d (excDt ⟨"NoRun", fs⟩)), none, none, none, none, none, none] := by
  have i0 : fIsE tb_NoBase (excDt ⟨"NoRun", fs⟩) = some (.bool false) := rfl
  have i1 : fIsE tb_NoText (excDt ⟨"NoRun", fs⟩) = some (.bool false) := rfl
  have i2 : fIsE tb_NoRows (excDt ⟨"NoRun", fs⟩) = some (.bool false) := rfl
  have i3 : fIsE tb_NoStand (excDt ⟨"NoRun", fs⟩) = some (.bool false) := rfl
  have i4 : fIsE tb_NoName (excDt ⟨"NoRun", fs⟩) = some (.bool false) := rfl
  have i5 : fIsE tb_NoNumber (excDt ⟨"NoRun", fs⟩) = some (.bool false) := rfl
  have i6 : fIsE tb_NoHistory (excDt ⟨"NoRun", fs⟩) = some (.bool false) := rfl
  have i7 : fIsE tb_NoCommand (excDt ⟨"NoRun", fs⟩) = some (.bool false) := rfl
  have i8 : fIsE tb_NoPart (excDt ⟨"NoRun", fs⟩) = some (.bool false) := rfl
  have i9 : fIsE tb_NoRun (excDt ⟨"NoRun", fs⟩) = some (.bool true) := rfl
  have i10 : fIsE tb_NoBranch (excDt ⟨"NoRun", fs⟩) = some (.bool false) := rfl
  have i11 : fIsE tb_NoCell (excDt ⟨"NoRun", fs⟩) = some (.bool false) := rfl
  have i12 : fIsE tb_NoDepth (excDt ⟨"NoRun", fs⟩) = some (.bool false) := rfl
  have i13 : fIsE tb_NoAnswer (excDt ⟨"NoRun", fs⟩) = some (.bool false) := rfl
  have i14 : fIsE tb_NotAsked (excDt ⟨"NoRun", fs⟩) = some (.bool false) := rfl
  have i15 : fIsE tb_Over (excDt ⟨"NoRun", fs⟩) = some (.bool false) := rfl
  have j0 : fIsE tb_ValueError (excDt ⟨"NoRun", fs⟩) = some (.bool false) := rfl
  have j1 : fIsE tb_KeyError (excDt ⟨"NoRun", fs⟩) = some (.bool true) := rfl
  have j2 : fIsE tb_IndexError (excDt ⟨"NoRun", fs⟩) = some (.bool false) := rfl
  have j3 : fIsE tb_LookupError (excDt ⟨"NoRun", fs⟩) = some (.bool true) := rfl
  have j4 : fIsE tb_RuntimeError (excDt ⟨"NoRun", fs⟩) = some (.bool false) := rfl
  generalize excDt ⟨"NoRun", fs⟩ = dx at *
  have cn : fCnt (.list [.bool false, .bool false, .bool false, .bool false, .bool false, .bool false, .bool false, .bool false, .bool false, .bool true, .bool false, .bool false, .bool false, .bool false, .bool false, .bool false]) (.bool true) = some (.int 1) := by kernel_rfl
  have ix : fIdx (.list [.bool false, .bool false, .bool false, .bool false, .bool false, .bool false, .bool false, .bool false, .bool false, .bool true, .bool false, .bool false, .bool false, .bool false, .bool false, .bool false]) (.bool true) = some (.int 9) := by kernel_rfl
  have ne1 : fNe (.int 1) (.int 1) = some (.bool false) := rfl
  have r1 : fRep (.list [.str "10000"]) (.int 8) = some (.list [.str "10000", .str "10000", .str "10000", .str "10000", .str "10000", .str "10000", .str "10000", .str "10000"]) := by kernel_rfl
  have r2 : fRep (.list [.str "01010"]) (.int 2) = some (.list [.str "01010", .str "01010"]) := by kernel_rfl
  have r3 : fRep (.list [.str "00110"]) (.int 3) = some (.list [.str "00110", .str "00110", .str "00110"]) := by kernel_rfl
  have xd : fIx (.list [.str "10000", .str "10000", .str "10000", .str "10000", .str "10000", .str "10000", .str "10000", .str "10000", .str "01010", .str "01010", .str "00110", .str "00110", .str "00110", .str "00010", .str "00001", .str "00001"]) (.int 9) = some (.str "01010") := by kernel_rfl
  have xn : fIx (.list [.str "NoBase", .str "NoText", .str "NoRows", .str "NoStand", .str "NoName", .str "NoNumber", .str "NoHistory", .str "NoCommand", .str "NoPart", .str "NoRun", .str "NoBranch", .str "NoCell", .str "NoDepth", .str "NoAnswer", .str "NotAsked", .str "Over"]) (.int 9) = some (.str "NoRun") := by kernel_rfl
  have ch : chars "01010" = [.str "0", .str "1", .str "0", .str "1", .str "0"] := rfl
  have as0 : ascC "01010" = true := by decide +kernel
  have e0 : fEq (.str "0") (.str "1") = some (.bool false) := rfl
  have e1 : fEq (.str "1") (.str "1") = some (.bool true) := rfl
  have el : fEq (.list [.bool false, .bool true, .bool false, .bool true, .bool false]) (.list [.bool false, .bool true, .bool false, .bool true, .bool false]) = some (.bool true) := by kernel_rfl
  unfold w__law_kinds
  simp only [wSeq, wAsg, wName, wBin, wVar, wC, wTest, wIfS, wIf, wNext, wRet, wCons, wNil, wCB, wIxK, wIxO, wPutI, wCallB, wPar, wLst, wTup, wUn, wL, wLstL, wRetL, wOr, wAnd, wNot, wOwn, wExt, wApp, wRev, wTake, wGive, wND, slotOf, wFreeze, wCall, wCallL, wCallK, wCallLK, wCallX, wCallXK, wiRng1, wiList, wiTup, wFor, wLcN, wkCl, wkApp, wYes, wgTup, wgCons, wgNil, wLend, lendD, lendS, wipeD, wPre, wWipe, forgetD, wParN, wSetN, wInS, wAddS, Md.may, T.data, Option.map_some, List.map_cons, List.map_nil, List.getElem?_cons_zero, List.getElem?_cons_succ, List.set_cons_zero, List.set_cons_succ, Option.some.injEq, Sl.d.injEq, Sl.o.injEq, T.l.injEq, T.s.injEq, T.d.injEq, PyData.int.injEq, PyData.bool.injEq, exists_eq_left, exists_eq_left', and_assoc, exists_and_left, exists_eq', and_true, true_and, if_true, List.length_cons, List.length_nil, Option.bind_some, List.cons_append, List.nil_append, List.append_nil, f1, f2, wNotV, i0, i1, i2, i3, i4, i5, i6, i7, i8, i9, i10, i11, i12, i13, i14, i15, j0, j1, j2, j3, j4]
  repeat (first | refine ⟨by decide, ?_⟩ | refine ⟨_, f_addL (by decide), ?_⟩)
  simp only [wM2, wSeq, wAsg, wName, wBin, wVar, wC, wTest, wIfS, wIf, wNext, wRet, wCons, wNil, wCB, wIxK, wIxO, wPutI, wCallB, wPar, wLst, wTup, wUn, wL, wLstL, wRetL, wOr, wAnd, wNot, wOwn, wExt, wApp, wRev, wTake, wGive, wND, slotOf, wFreeze, wCall, wCallL, wCallK, wCallLK, wCallX, wCallXK, wiRng1, wiList, wiTup, wFor, wLcN, wkCl, wkApp, wYes, wgTup, wgCons, wgNil, wLend, lendD, lendS, wipeD, wPre, wWipe, forgetD, wParN, wSetN, wInS, wAddS, Md.may, T.data, Option.map_some, List.map_cons, List.map_nil, List.getElem?_cons_zero, List.getElem?_cons_succ, List.set_cons_zero, List.set_cons_succ, Option.some.injEq, Sl.d.injEq, Sl.o.injEq, T.l.injEq, T.s.injEq, T.d.injEq, PyData.int.injEq, PyData.bool.injEq, exists_eq_left, exists_eq_left', and_assoc, exists_and_left, exists_eq', and_true, true_and, if_true, List.length_cons, List.length_nil, Option.bind_some, List.cons_append, List.nil_append, List.append_nil, f1, f2, wNotV, List.cons_append, List.nil_append, cn, ne1, ix, exists_eq_left', Bool.false_eq_true, if_false, PyData.list.injEq, exists_eq']
  try simp only [r1, r2, r3, wSeq, wAsg, wName, wBin, wVar, wC, wTest, wIfS, wIf, wNext, wRet, wCons, wNil, wCB, wIxK, wIxO, wPutI, wCallB, wPar, wLst, wTup, wUn, wL, wLstL, wRetL, wOr, wAnd, wNot, wOwn, wExt, wApp, wRev, wTake, wGive, wND, slotOf, wFreeze, wCall, wCallL, wCallK, wCallLK, wCallX, wCallXK, wiRng1, wiList, wiTup, wFor, wLcN, wkCl, wkApp, wYes, wgTup, wgCons, wgNil, wLend, lendD, lendS, wipeD, wPre, wWipe, forgetD, wParN, wSetN, wInS, wAddS, Md.may, T.data, Option.map_some, List.map_cons, List.map_nil, List.getElem?_cons_zero, List.getElem?_cons_succ, List.set_cons_zero, List.set_cons_succ, Option.some.injEq, Sl.d.injEq, Sl.o.injEq, T.l.injEq, T.s.injEq, T.d.injEq, PyData.int.injEq, PyData.bool.injEq, exists_eq_left, exists_eq_left', and_assoc, exists_and_left, exists_eq', and_true, true_and, if_true, List.length_cons, List.length_nil, Option.bind_some, List.cons_append, List.nil_append, List.append_nil, f1, f2, wNotV, List.cons_append, List.nil_append, PyData.list.injEq]
  repeat (first | refine ⟨by decide, ?_⟩ | refine ⟨_, f_addL (by decide), ?_⟩)
  simp only [wiStr, wSeq, wAsg, wName, wBin, wVar, wC, wTest, wIfS, wIf, wNext, wRet, wCons, wNil, wCB, wIxK, wIxO, wPutI, wCallB, wPar, wLst, wTup, wUn, wL, wLstL, wRetL, wOr, wAnd, wNot, wOwn, wExt, wApp, wRev, wTake, wGive, wND, slotOf, wFreeze, wCall, wCallL, wCallK, wCallLK, wCallX, wCallXK, wiRng1, wiList, wiTup, wFor, wLcN, wkCl, wkApp, wYes, wgTup, wgCons, wgNil, wLend, lendD, lendS, wipeD, wPre, wWipe, forgetD, wParN, wSetN, wInS, wAddS, Md.may, T.data, Option.map_some, List.map_cons, List.map_nil, List.getElem?_cons_zero, List.getElem?_cons_succ, List.set_cons_zero, List.set_cons_succ, Option.some.injEq, Sl.d.injEq, Sl.o.injEq, T.l.injEq, T.s.injEq, T.d.injEq, PyData.int.injEq, PyData.bool.injEq, exists_eq_left, exists_eq_left', and_assoc, exists_and_left, exists_eq', and_true, true_and, if_true, List.length_cons, List.length_nil, Option.bind_some, List.cons_append, List.nil_append, List.append_nil, f1, f2, wNotV, PyData.tuple.injEq, PyData.list.injEq, PyData.str.injEq, List.cons.injEq, exists_eq_right_right, exists_eq_right, wgStar, wgLst, wSl, woNone, woSome, wOrV, wAndV, wChain, wDrop, wDisp, wDispG, wVals, lookD, xd, as0, ch, clRec, e0, e1, el, xn]
  repeat (first | exact hP | refine ⟨by decide, ?_⟩)
theorem kinds_NoBranch {fs : List (Str × PyData)} {P : PyData → Prop} (hP : P (.str "NoBranch")) : w__law_kinds (endsP P) [some (.d (excDt ⟨"NoBranch", fs⟩)), none, none, none, none, none, none] := by
  have i0 : fIsE tb_NoBase (excDt ⟨"NoBranch", fs⟩) = some (.bool false) := rfl
  have i1 : fIsE tb_NoText (excDt ⟨"NoBranch", fs⟩) = some (.bool false) := rfl
  have i2 : fIsE tb_NoRows (excDt ⟨"NoBranch", fs⟩) = some (.bool false) := rfl
  have i3 : fIsE tb_NoStand (excDt ⟨"NoBranch", fs⟩) = some (.bool false) := rfl
  have i4 : fIsE tb_NoName (excDt ⟨"NoBranch", fs⟩) = some (.bool false) := rfl
  have i5 : fIsE tb_NoNumber (excDt ⟨"NoBranch", fs⟩) = some (.bool false) := rfl
  have i6 : fIsE tb_NoHistory (excDt ⟨"NoBranch", fs⟩) = some (.bool false) := rfl
  have i7 : fIsE tb_NoCommand (excDt ⟨"NoBranch", fs⟩) = some (.bool false) := rfl
  have i8 : fIsE tb_NoPart (excDt ⟨"NoBranch", fs⟩) = some (.bool false) := rfl
  have i9 : fIsE tb_NoRun (excDt ⟨"NoBranch", fs⟩) = some (.bool false) := rfl
  have i10 : fIsE tb_NoBranch (excDt ⟨"NoBranch", fs⟩) = some (.bool true) := rfl
  have i11 : fIsE tb_NoCell (excDt ⟨"NoBranch", fs⟩) = some (.bool false) := rfl
  have i12 : fIsE tb_NoDepth (excDt ⟨"NoBranch", fs⟩) = some (.bool false) := rfl
  have i13 : fIsE tb_NoAnswer (excDt ⟨"NoBranch", fs⟩) = some (.bool false) := rfl
  have i14 : fIsE tb_NotAsked (excDt ⟨"NoBranch", fs⟩) = some (.bool false) := rfl
  have i15 : fIsE tb_Over (excDt ⟨"NoBranch", fs⟩) = some (.bool false) := rfl
  have j0 : fIsE tb_ValueError (excDt ⟨"NoBranch", fs⟩) = some (.bool false) := rfl
  have j1 : fIsE tb_KeyError (excDt ⟨"NoBranch", fs⟩) = some (.bool false) := rfl
  have j2 : fIsE tb_IndexError (excDt ⟨"NoBranch", fs⟩) = some (.bool true) := rfl
  have j3 : fIsE tb_LookupError (excDt ⟨"NoBranch", fs⟩) = some (.bool true) := rfl
  have j4 : fIsE tb_RuntimeError (excDt ⟨"NoBranch", fs⟩) = some (.bool false) := rfl
  generalize excDt ⟨"NoBranch", fs⟩ = dx at *
  have cn : fCnt (.list [.bool false, .bool false, .bool false, .bool false, .bool false, .bool false, .bool false, .bool false, .bool false, .bool false, .bool true, .bool false, .bool false, .bool false, .bool false, .bool false]) (.bool true) = some (.int 1) := by kernel_rfl
  have ix : fIdx (.list [.bool false, .bool false, .bool false, .bool false, .bool false, .bool false, .bool false, .bool false, .bool false, .bool false, .bool true, .bool false, .bool false, .bool false, .bool false, .bool false]) (.bool true) = some (.int 10) := by kernel_rfl
  have ne1 : fNe (.int 1) (.int 1) = some (.bool false) := rfl
  have r1 : fRep (.list [.str "10000"]) (.int 8) = some (.list [.str "10000", .str "10000", .str "10000", .str "10000", .str "10000", .str "10000", .str "10000", .str "10000"]) := by kernel_rfl
  have r2 : fRep (.list [.str "01010"]) (.int 2) = some (.list [.str "01010", .str "01010"]) := by kernel_rfl
  have r3 : fRep (.list [.str "00110"]) (.int 3) = some (.list [.str "00110", .str "00110", .str "00110"]) := by kernel_rfl
  have xd : fIx (.list [.str "10000", .str "10000", .str "10000", .str "10000", .str "10000", .str "10000", .str "10000", .str "10000", .str "01010", .str "01010", .str "00110", .str "00110", .str "00110", .str "00010", .str "00001", .str "00001"]) (.int 10) = some (.str "00110") := by kernel_rfl
  have xn : fIx (.list [.str "NoBase", .str "NoText", .str "NoRows", .str "NoStand", .str "NoName", .str "NoNumber", .str "NoHistory", .str "NoCommand", .str "NoPart", .str "NoRun", .str "NoBranch", .str "NoCell", .str "NoDepth", .str "NoAnswer", .str "NotAsked", .str "Over"]) (.int 10) = some (.str "NoBranch") := by kernel_rfl
  have ch : chars "00110" = [.str "0", .str "0", .str "1", .str "1", .str "0"] := rfl
  have as0 : ascC "00110" = true := by decide +kernel
  have e0 : fEq (.str "0") (.str "1") = some (.bool false) := rfl
  have e1 : fEq (.str "1") (.str "1") = some (.bool true) := rfl
  have el : fEq (.list [.bool false, .bool false, .bool true, .bool true, .bool false]) (.list [.bool false, .bool false, .bool true, .bool true, .bool false]) = some (.bool true) := by kernel_rfl
  unfold w__law_kinds
  simp only [wSeq, wAsg, wName, wBin, wVar, wC, wTest, wIfS, wIf, wNext, wRet, wCons, wNil, wCB, wIxK, wIxO, wPutI, wCallB, wPar, wLst, wTup, wUn, wL, wLstL, wRetL, wOr, wAnd, wNot, wOwn, wExt, wApp, wRev, wTake, wGive, wND, slotOf, wFreeze, wCall, wCallL, wCallK, wCallLK, wCallX, wCallXK, wiRng1, wiList, wiTup, wFor, wLcN, wkCl, wkApp, wYes, wgTup, wgCons, wgNil, wLend, lendD, lendS, wipeD, wPre, wWipe, forgetD, wParN, wSetN, wInS, wAddS, Md.may, T.data, Option.map_some, List.map_cons, List.map_nil, List.getElem?_cons_zero, List.getElem?_cons_succ, List.set_cons_zero, List.set_cons_succ, Option.some.injEq, Sl.d.injEq, Sl.o.injEq, T.l.injEq, T.s.injEq, T.d.injEq, PyData.int.injEq, PyData.bool.injEq, exists_eq_left, exists_eq_left', and_assoc, exists_and_left, exists_eq', and_true, true_and, if_true, List.length_cons, List.length_nil, Option.bind_some, List.cons_append, List.nil_append, List.append_nil, f1, f2, wNotV, i0, i1, i2, i3, i4, i5, i6, i7, i8, i9, i10, i11, i12, i13, i14, i15, j0, j1, j2, j3, j4]
  repeat (first | refine ⟨by decide, ?_⟩ | refine ⟨_, f_addL (by decide), ?_⟩)
  simp only [wM2, wSeq, wAsg, wName, wBin, wVar, wC, wTest, wIfS, wIf, wNext, wRet, wCons, wNil, wCB, wIxK, wIxO, wPutI, wCallB, wPar, wLst, wTup, wUn, wL, wLstL, wRetL, wOr, wAnd, wNot, wOwn, wExt, wApp, wRev, wTake, wGive, wND, slotOf, wFreeze, wCall, wCallL, wCallK, wCallLK, wCallX, wCallXK, wiRng1, wiList, wiTup, wFor, wLcN, wkCl, wkApp, wYes, wgTup, wgCons, wgNil, wLend, lendD, lendS, wipeD, wPre, wWipe, forgetD, wParN, wSetN, wInS, wAddS, Md.may, T.data, Option.map_some, List.map_cons, List.map_nil, List.getElem?_cons_zero, List.getElem?_cons_succ, List.set_cons_zero, List.set_cons_succ, Option.some.injEq, Sl.d.injEq, Sl.o.injEq, T.l.injEq, T.s.injEq, T.d.injEq, PyData.int.injEq, PyData.bool.injEq, exists_eq_left, exists_eq_left', and_assoc, exists_and_left, exists_eq', and_true, true_and, if_true, List.length_cons, List.length_nil, Option.bind_some, List.cons_append, List.nil_append, List.append_nil, f1, f2, wNotV, List.cons_append, List.nil_append, cn, ne1, ix, exists_eq_left', Bool.false_eq_true, if_false, PyData.list.injEq, exists_eq']
  try simp only [r1, r2, r3, wSeq, wAsg, wName, wBin, wVar, wC, wTest, wIfS, wIf, wNext, wRet, wCons, wNil, wCB, wIxK, wIxO, wPutI, wCallB, wPar, wLst, wTup, wUn, wL, wLstL, wRetL, wOr, wAnd, wNot, wOwn, wExt, wApp, wRev, wTake, wGive, wND, slotOf, wFreeze, wCall, wCallL, wCallK, wCallLK, wCallX, wCallXK, wiRng1, wiList, wiTup, wFor, wLcN, wkCl, wkApp, wYes, wgTup, wgCons, wgNil, wLend, lendD, lendS, wipeD, wPre, wWipe, forgetD, wParN, wSetN, wInS, wAddS, Md.may, T.data, Option.map_some, List.map_cons, List.map_nil, List.getElem?_cons_zero, List.getElem?_cons_succ, List.set_cons_zero, List.set_cons_succ, Option.some.injEq, Sl.d.injEq, Sl.o.injEq, T.l.injEq, T.s.injEq, T.d.injEq, PyData.int.injEq, PyData.bool.injEq, exists_eq_left, exists_eq_left', and_assoc, exists_and_left, exists_eq', and_true, true_and, if_true, List.length_cons, List.length_nil, Option.bind_some, List.cons_append, List.nil_append, List.append_nil, f1, f2, wNotV, List.cons_append, List.nil_append, PyData.list.injEq]
  repeat (first | refine ⟨by decide, ?_⟩ | refine ⟨_, f_addL (by decide), ?_⟩)
  simp only [wiStr, wSeq, wAsg, wName, wBin, wVar, wC, wTest, wIfS, wIf, wNext, wRet, wCons, wNil, wCB, wIxK, wIxO, wPutI, wCallB, wPar, wLst, wTup, wUn, wL, wLstL, wRetL, wOr, wAnd, wNot, wOwn, wExt, wApp, wRev, wTake, wGive, wND, slotOf, wFreeze, wCall, wCallL, wCallK, wCallLK, wCallX, wCallXK, wiRng1, wiList, wiTup, wFor, wLcN, wkCl, wkApp, wYes, wgTup, wgCons, wgNil, wLend, lendD, lendS, wipeD, wPre, wWipe, forgetD, wParN, wSetN, wInS, wAddS, Md.may, T.data, Option.map_some, List.map_cons, List.map_nil, List.getElem?_cons_zero, List.getElem?_cons_succ, List.set_cons_zero, List.set_cons_succ, Option.some.injEq, Sl.d.injEq, Sl.o.injEq, T.l.injEq, T.s.injEq, T.d.injEq, PyData.int.injEq, PyData.bool.injEq, exists_eq_left, exists_eq_left', and_assoc, exists_and_left, exists_eq', and_true, true_and, if_true, List.length_cons, List.length_nil, Option.bind_some, List.cons_append, List.nil_append, List.append_nil, f1, f2, wNotV, PyData.tuple.injEq, PyData.list.injEq, PyData.str.injEq, List.cons.injEq, exists_eq_right_right, exists_eq_right, wgStar, wgLst, wSl, woNone, woSome, wOrV, wAndV, wChain, wDrop, wDisp, wDispG, wVals, lookD, xd, as0, ch, clRec, e0, e1, el, xn]
  repeat (first | exact hP | refine ⟨by decide, ?_⟩)
theorem kinds_NoCell {fs : List (Str × PyData)} {P : PyData → Prop} (hP : P (.str "NoCell")) : w__law_kinds (endsP P) [some (.d (excDt ⟨"NoCell", fs⟩)), none, none, none, none, none, none] := by
  have i0 : fIsE tb_NoBase (excDt ⟨"NoCell", fs⟩) = some (.bool false) := rfl
  have i1 : fIsE tb_NoText (excDt ⟨"NoCell", fs⟩) = some (.bool false) := rfl
  have i2 : fIsE tb_NoRows (excDt ⟨"NoCell", fs⟩) = some (.bool false) := rfl
  have i3 : fIsE tb_NoStand (excDt ⟨"NoCell", fs⟩) = some (.bool false) := rfl
  have i4 : fIsE tb_NoName (excDt ⟨"NoCell", fs⟩) = some (.bool false) := rfl
  have i5 : fIsE tb_NoNumber (excDt ⟨"NoCell", fs⟩) = some (.bool false) := rfl
  have i6 : fIsE tb_NoHistory (excDt ⟨"NoCell", fs⟩) = some (.bool false) := rfl
  have i7 : fIsE tb_NoCommand (excDt ⟨"NoCell", fs⟩) = some (.bool false) := rfl
  have i8 : fIsE tb_NoPart (excDt ⟨"NoCell", fs⟩) = some (.bool false) := rfl
  have i9 : fIsE tb_NoRun (excDt ⟨"NoCell", fs⟩) = some (.bool false) := rfl
  have i10 : fIsE tb_NoBranch (excDt ⟨"NoCell", fs⟩) = some (.bool false) := rfl
  have i11 : fIsE tb_NoCell (excDt ⟨"NoCell", fs⟩) = some (.bool true) := rfl
  have i12 : fIsE tb_NoDepth (excDt ⟨"NoCell", fs⟩) = some (.bool false) := rfl
  have i13 : fIsE tb_NoAnswer (excDt ⟨"NoCell", fs⟩) = some (.bool false) := rfl
  have i14 : fIsE tb_NotAsked (excDt ⟨"NoCell", fs⟩) = some (.bool false) := rfl
  have i15 : fIsE tb_Over (excDt ⟨"NoCell", fs⟩) = some (.bool false) := rfl
  have j0 : fIsE tb_ValueError (excDt ⟨"NoCell", fs⟩) = some (.bool false) := rfl
  have j1 : fIsE tb_KeyError (excDt ⟨"NoCell", fs⟩) = some (.bool false) := rfl
  have j2 : fIsE tb_IndexError (excDt ⟨"NoCell", fs⟩) = some (.bool true) := rfl
  have j3 : fIsE tb_LookupError (excDt ⟨"NoCell", fs⟩) = some (.bool true) := rfl
  have j4 : fIsE tb_RuntimeError (excDt ⟨"NoCell", fs⟩) = some (.bool false) := rfl
  generalize excDt ⟨"NoCell", fs⟩ = dx at *
  have cn : fCnt (.list [.bool false, .bool false, .bool false, .bool false, .bool false, .bool false, .bool false, .bool false, .bool false, .bool false, .bool false, .bool true, .bool false, .bool false, .bool false, .bool false]) (.bool true) = some (.int 1) := by kernel_rfl
  have ix : fIdx (.list [.bool false, .bool false, .bool false, .bool false, .bool false, .bool false, .bool false, .bool false, .bool false, .bool false, .bool false, .bool true, .bool false, .bool false, .bool false, .bool false]) (.bool true) = some (.int 11) := by kernel_rfl
  have ne1 : fNe (.int 1) (.int 1) = some (.bool false) := rfl
  have r1 : fRep (.list [.str "10000"]) (.int 8) = some (.list [.str "10000", .str "10000", .str "10000", .str "10000", .str "10000", .str "10000", .str "10000", .str "10000"]) := by kernel_rfl
  have r2 : fRep (.list [.str "01010"]) (.int 2) = some (.list [.str "01010", .str "01010"]) := by kernel_rfl
  have r3 : fRep (.list [.str "00110"]) (.int 3) = some (.list [.str "00110", .str "00110", .str "00110"]) := by kernel_rfl
  have xd : fIx (.list [.str "10000", .str "10000", .str "10000", .str "10000", .str "10000", .str "10000", .str "10000", .str "10000", .str "01010", .str "01010", .str "00110", .str "00110", .str "00110", .str "00010", .str "00001", .str "00001"]) (.int 11) = some (.str "00110") := by kernel_rfl
  have xn : fIx (.list [.str "NoBase", .str "NoText", .str "NoRows", .str "NoStand", .str "NoName", .str "NoNumber", .str "NoHistory", .str "NoCommand", .str "NoPart", .str "NoRun", .str "NoBranch", .str "NoCell", .str "NoDepth", .str "NoAnswer", .str "NotAsked", .str "Over"]) (.int 11) = some (.str "NoCell") := by kernel_rfl
  have ch : chars "00110" = [.str "0", .str "0", .str "1", .str "1", .str "0"] := rfl
  have as0 : ascC "00110" = true := by decide +kernel
  have e0 : fEq (.str "0") (.str "1") = some (.bool false) := rfl
  have e1 : fEq (.str "1") (.str "1") = some (.bool true) := rfl
  have el : fEq (.list [.bool false, .bool false, .bool true, .bool true, .bool false]) (.list [.bool false, .bool false, .bool true, .bool true, .bool false]) = some (.bool true) := by kernel_rfl
  unfold w__law_kinds
  simp only [wSeq, wAsg, wName, wBin, wVar, wC, wTest, wIfS, wIf, wNext, wRet, wCons, wNil, wCB, wIxK, wIxO, wPutI, wCallB, wPar, wLst, wTup, wUn, wL, wLstL, wRetL, wOr, wAnd, wNot, wOwn, wExt, wApp, wRev, wTake, wGive, wND, slotOf, wFreeze, wCall, wCallL, wCallK, wCallLK, wCallX, wCallXK, wiRng1, wiList, wiTup, wFor, wLcN, wkCl, wkApp, wYes, wgTup, wgCons, wgNil, wLend, lendD, lendS, wipeD, wPre, wWipe, forgetD, wParN, wSetN, wInS, wAddS, Md.may, T.data, Option.map_some, List.map_cons, List.map_nil, List.getElem?_cons_zero, List.getElem?_cons_succ, List.set_cons_zero, List.set_cons_succ, Option.some.injEq, Sl.d.injEq, Sl.o.injEq, T.l.injEq, T.s.injEq, T.d.injEq, PyData.int.injEq, PyData.bool.injEq, exists_eq_left, exists_eq_left', and_assoc, exists_and_left, exists_eq', and_true, true_and, if_true, List.length_cons, List.length_nil, Option.bind_some, List.cons_append, List.nil_append, List.append_nil, f1, f2, wNotV, i0, i1, i2, i3, i4, i5, i6, i7, i8, i9, i10, i11, i12, i13, i14, i15, j0, j1, j2, j3, j4]
  repeat (first | refine ⟨by decide, ?_⟩ | refine ⟨_, f_addL (by decide), ?_⟩)
  simp only [wM2, wSeq, wAsg, wName, wBin, wVar, wC, wTest, wIfS, wIf, wNext, wRet, wCons, wNil, wCB, wIxK, wIxO, wPutI, wCallB, wPar, wLst, wTup, wUn, wL, wLstL, wRetL, wOr, wAnd, wNot, wOwn, wExt, wApp, wRev, wTake, wGive, wND, slotOf, wFreeze, wCall, wCallL, wCallK, wCallLK, wCallX, wCallXK, wiRng1, wiList, wiTup, wFor, wLcN, wkCl, wkApp, wYes, wgTup, wgCons, wgNil, wLend, lendD, lendS, wipeD, wPre, wWipe, forgetD, wParN, wSetN, wInS, wAddS, Md.may, T.data, Option.map_some, List.map_cons, List.map_nil, List.getElem?_cons_zero, List.getElem?_cons_succ, List.set_cons_zero, List.set_cons_succ, Option.some.injEq, Sl.d.injEq, Sl.o.injEq, T.l.injEq, T.s.injEq, T.d.injEq, PyData.int.injEq, PyData.bool.injEq, exists_eq_left, exists_eq_left', and_assoc, exists_and_left, exists_eq', and_true, true_and, if_true, List.length_cons, List.length_nil, Option.bind_some, List.cons_append, List.nil_append, List.append_nil, f1, f2, wNotV, List.cons_append, List.nil_append, cn, ne1, ix, exists_eq_left', Bool.false_eq_true, if_false, PyData.list.injEq, exists_eq']
  try simp only [r1, r2, r3, wSeq, wAsg, wName, wBin, wVar, wC, wTest, wIfS, wIf, wNext, wRet, wCons, wNil, wCB, wIxK, wIxO, wPutI, wCallB, wPar, wLst, wTup, wUn, wL, wLstL, wRetL, wOr, wAnd, wNot, wOwn, wExt, wApp, wRev, wTake, wGive, wND, slotOf, wFreeze, wCall, wCallL, wCallK, wCallLK, wCallX, wCallXK, wiRng1, wiList, wiTup, wFor, wLcN, wkCl, wkApp, wYes, wgTup, wgCons, wgNil, wLend, lendD, lendS, wipeD, wPre, wWipe, forgetD, wParN, wSetN, wInS, wAddS, Md.may, T.data, Option.map_some, List.map_cons, List.map_nil, List.getElem?_cons_zero, List.getElem?_cons_succ, List.set_cons_zero, List.set_cons_succ, Option.some.injEq, Sl.d.injEq, Sl.o.injEq, T.l.injEq, T.s.injEq, T.d.injEq, PyData.int.injEq, PyData.bool.injEq, exists_eq_left, exists_eq_left', and_assoc, exists_and_left, exists_eq', and_true, true_and, if_true, List.length_cons, List.length_nil, Option.bind_some, List.cons_append, List.nil_append, List.append_nil, f1, f2, wNotV, List.cons_append, List.nil_append, PyData.list.injEq]
  repeat (first | refine ⟨by decide, ?_⟩ | refine ⟨_, f_addL (by decide), ?_⟩)
  simp only [wiStr, wSeq, wAsg, wName, wBin, wVar, wC, wTest, wIfS, wIf, wNext, wRet, wCons, wNil, wCB, wIxK, wIxO, wPutI, wCallB, wPar, wLst, wTup, wUn, wL, wLstL, wRetL, wOr, wAnd, wNot, wOwn, wExt, wApp, wRev, wTake, wGive, wND, slotOf, wFreeze, wCall, wCallL, wCallK, wCallLK, wCallX, wCallXK, wiRng1, wiList, wiTup, wFor, wLcN, wkCl, wkApp, wYes, wgTup, wgCons, wgNil, wLend, lendD, lendS, wipeD, wPre, wWipe, forgetD, wParN, wSetN, wInS, wAddS, Md.may, T.data, Option.map_some, List.map_cons, List.map_nil, List.getElem?_cons_zero, List.getElem?_cons_succ, List.set_cons_zero, List.set_cons_succ, Option.some.injEq, Sl.d.injEq, Sl.o.injEq, T.l.injEq, T.s.injEq, T.d.injEq, PyData.int.injEq, PyData.bool.injEq, exists_eq_left, exists_eq_left', and_assoc, exists_and_left, exists_eq', and_true, true_and, if_true, List.length_cons, List.length_nil, Option.bind_some, List.cons_append, List.nil_append, List.append_nil, f1, f2, wNotV, PyData.tuple.injEq, PyData.list.injEq, PyData.str.injEq, List.cons.injEq, exists_eq_right_right, exists_eq_right, wgStar, wgLst, wSl, woNone, woSome, wOrV, wAndV, wChain, wDrop, wDisp, wDispG, wVals, lookD, xd, as0, ch, clRec, e0, e1, el, xn]
  repeat (first | exact hP | refine ⟨by decide, ?_⟩)
theorem kinds_NoDepth {fs : List (Str × PyData)} {P : PyData → Prop} (hP : P (.str "NoDepth")) : w__law_kinds (endsP P) [some (.d (excDt ⟨"NoDepth", fs⟩)), none, none, none, none, none, none] := by
  have i0 : fIsE tb_NoBase (excDt ⟨"NoDepth", fs⟩) = some (.bool false) := rfl
  have i1 : fIsE tb_NoText (excDt ⟨"NoDepth", fs⟩) = some (.bool false) := rfl
  have i2 : fIsE tb_NoRows (excDt ⟨"NoDepth", fs⟩) = some (.bool false) := rfl
  have i3 : fIsE tb_NoStand (excDt ⟨"NoDepth", fs⟩) = some (.bool false) := rfl
  have i4 : fIsE tb_NoName (excDt ⟨"NoDepth", fs⟩) = some (.bool false) := rfl
  have i5 : fIsE tb_NoNumber (excDt ⟨"NoDepth", fs⟩) = some (.bool false) := rfl
  have i6 : fIsE tb_NoHistory (excDt ⟨"NoDepth", fs⟩) = some (.bool false) := rfl
  have i7 : fIsE tb_NoCommand (excDt ⟨"NoDepth", fs⟩) = some (.bool false) := rfl
  have i8 : fIsE tb_NoPart (excDt ⟨"NoDepth", fs⟩) = some (.bool false) := rfl
  have i9 : fIsE tb_NoRun (excDt ⟨"NoDepth", fs⟩) = some (.bool false) := rfl
  have i10 : fIsE tb_NoBranch (excDt ⟨"NoDepth", fs⟩) = some (.bool false) := rfl
  have i11 : fIsE tb_NoCell (excDt ⟨"NoDepth", fs⟩) = some (.bool false) := rfl
  have i12 : fIsE tb_NoDepth (excDt ⟨"NoDepth", fs⟩) = some (.bool true) := rfl
  have i13 : fIsE tb_NoAnswer (excDt ⟨"NoDepth", fs⟩) = some (.bool false) := rfl
  have i14 : fIsE tb_NotAsked (excDt ⟨"NoDepth", fs⟩) = some (.bool false) := rfl
  have i15 : fIsE tb_Over (excDt ⟨"NoDepth", fs⟩) = some (.bool false) := rfl
  have j0 : fIsE tb_ValueError (excDt ⟨"NoDepth", fs⟩) = some (.bool false) := rfl
  have j1 : fIsE tb_KeyError (excDt ⟨"NoDepth", fs⟩) = some (.bool false) := rfl
  have j2 : fIsE tb_IndexError (excDt ⟨"NoDepth", fs⟩) = some (.bool true) := rfl
  have j3 : fIsE tb_LookupError (excDt ⟨"NoDepth", fs⟩) = some (.bool true) := rfl
  have j4 : fIsE tb_RuntimeError (excDt ⟨"NoDepth", fs⟩) = some (.bool false) := rfl
  generalize excDt ⟨"NoDepth", fs⟩ = dx at *
  have cn : fCnt (.list [.bool false, .bool false, .bool false, .bool false, .bool false, .bool false, .bool false, .bool false, .bool false, .bool false, .bool false, .bool false, .bool true, .bool false, .bool false, .bool false]) (.bool true) = some (.int 1) := by kernel_rfl
  have ix : fIdx (.list [.bool false, .bool false, .bool false, .bool false, .bool false, .bool false, .bool false, .bool false, .bool false, .bool false, .bool false, .bool false, .bool true, .bool false, .bool false, .bool false]) (.bool true) = some (.int 12) := by kernel_rfl
  have ne1 : fNe (.int 1) (.int 1) = some (.bool false) := rfl
  have r1 : fRep (.list [.str "10000"]) (.int 8) = some (.list [.str "10000", .str "10000", .str "10000", .str "10000", .str "10000", .str "10000", .str "10000", .str "10000"]) := by kernel_rfl
  have r2 : fRep (.list [.str "01010"]) (.int 2) = some (.list [.str "01010", .str "01010"]) := by kernel_rfl
  have r3 : fRep (.list [.str "00110"]) (.int 3) = some (.list [.str "00110", .str "00110", .str "00110"]) := by kernel_rfl
  have xd : fIx (.list [.str "10000", .str "10000", .str "10000", .str "10000", .str "10000", .str "10000", .str "10000", .str "10000", .str "01010", .str "01010", .str "00110", .str "00110", .str "00110", .str "00010", .str "00001", .str "00001"]) (.int 12) = some (.str "00110") := by kernel_rfl
  have xn : fIx (.list [.str "NoBase", .str "NoText", .str "NoRows", .str "NoStand", .str "NoName", .str "NoNumber", .str "NoHistory", .str "NoCommand", .str "NoPart", .str "NoRun", .str "NoBranch", .str "NoCell", .str "NoDepth", .str "NoAnswer", .str "NotAsked", .str "Over"]) (.int 12) = some (.str "NoDepth") := by kernel_rfl
  have ch : chars "00110" = [.str "0", .str "0", .str "1", .str "1", .str "0"] := rfl
  have as0 : ascC "00110" = true := by decide +kernel
  have e0 : fEq (.str "0") (.str "1") = some (.bool false) := rfl
  have e1 : fEq (.str "1") (.str "1") = some (.bool true) := rfl
  have el : fEq (.list [.bool false, .bool false, .bool true, .bool true, .bool false]) (.list [.bool false, .bool false, .bool true, .bool true, .bool false]) = some (.bool true) := by kernel_rfl
  unfold w__law_kinds
  simp only [wSeq, wAsg, wName, wBin, wVar, wC, wTest, wIfS, wIf, wNext, wRet, wCons, wNil, wCB, wIxK, wIxO, wPutI, wCallB, wPar, wLst, wTup, wUn, wL, wLstL, wRetL, wOr, wAnd, wNot, wOwn, wExt, wApp, wRev, wTake, wGive, wND, slotOf, wFreeze, wCall, wCallL, wCallK, wCallLK, wCallX, wCallXK, wiRng1, wiList, wiTup, wFor, wLcN, wkCl, wkApp, wYes, wgTup, wgCons, wgNil, wLend, lendD, lendS, wipeD, wPre, wWipe, forgetD, wParN, wSetN, wInS, wAddS, Md.may, T.data, Option.map_some, List.map_cons, List.map_nil, List.getElem?_cons_zero, List.getElem?_cons_succ, List.set_cons_zero, List.set_cons_succ, Option.some.injEq, Sl.d.injEq, Sl.o.injEq, T.l.injEq, T.s.injEq, T.d.injEq, PyData.int.injEq, PyData.bool.injEq, exists_eq_left, exists_eq_left', and_assoc, exists_and_left, exists_eq', and_true, true_and, if_true, List.length_cons, List.length_nil, Option.bind_some, List.cons_append, List.nil_append, List.append_nil, f1, f2, wNotV, i0, i1, i2, i3, i4, i5, i6, i7, i8, i9, i10, i11, i12, i13, i14, i15, j0, j1, j2, j3, j4]
  repeat (first | refine ⟨by decide, ?_⟩ | refine ⟨_, f_addL (by decide), ?_⟩)
  simp only [wM2, wSeq, wAsg, wName, wBin, wVar, wC, wTest, wIfS, wIf, wNext, wRet, wCons, wNil, wCB, wIxK, wIxO, wPutI, wCallB, wPar, wLst, wTup, wUn, wL, wLstL, wRetL, wOr, wAnd, wNot, wOwn, wExt, wApp, wRev, wTake, wGive, wND, slotOf, wFreeze, wCall, wCallL, wCallK, wCallLK, wCallX, wCallXK, wiRng1, wiList, wiTup, wFor, wLcN, wkCl, wkApp, wYes, wgTup, wgCons, wgNil, wLend, lendD, lendS, wipeD, wPre, wWipe, forgetD, wParN, wSetN, wInS, wAddS, Md.may, T.data, Option.map_some, List.map_cons, List.map_nil, List.getElem?_cons_zero, List.getElem?_cons_succ, List.set_cons_zero, List.set_cons_succ, Option.some.injEq, Sl.d.injEq, Sl.o.injEq, T.l.injEq, T.s.injEq, T.d.injEq, PyData.int.injEq, PyData.bool.injEq, exists_eq_left, exists_eq_left', and_assoc, exists_and_left, exists_eq', and_true, true_and, if_true, List.length_cons, List.length_nil, Option.bind_some, List.cons_append, List.nil_append, List.append_nil, f1, f2, wNotV, List.cons_append, List.nil_append, cn, ne1, ix, exists_eq_left', Bool.false_eq_true, if_false, PyData.list.injEq, exists_eq']
  try simp only [r1, r2, r3, wSeq, wAsg, wName, wBin, wVar, wC, wTest, wIfS, wIf, wNext, wRet, wCons, wNil, wCB, wIxK, wIxO, wPutI, wCallB, wPar, wLst, wTup, wUn, wL, wLstL, wRetL, wOr, wAnd, wNot, wOwn, wExt, wApp, wRev, wTake, wGive, wND, slotOf, wFreeze, wCall, wCallL, wCallK, wCallLK, wCallX, wCallXK, wiRng1, wiList, wiTup, wFor, wLcN, wkCl, wkApp, wYes, wgTup, wgCons, wgNil, wLend, lendD, lendS, wipeD, wPre, wWipe, forgetD, wParN, wSetN, wInS, wAddS, Md.may, T.data, Option.map_some, List.map_cons, List.map_nil, List.getElem?_cons_zero, List.getElem?_cons_succ, List.set_cons_zero, List.set_cons_succ, Option.some.injEq, Sl.d.injEq, Sl.o.injEq, T.l.injEq, T.s.injEq, T.d.injEq, PyData.int.injEq, PyData.bool.injEq, exists_eq_left, exists_eq_left', and_assoc, exists_and_left, exists_eq', and_true, true_and, if_true, List.length_cons, List.length_nil, Option.bind_some, List.cons_append, List.nil_append, List.append_nil, f1, f2, wNotV, List.cons_append, List.nil_append, PyData.list.injEq]
  repeat (first | refine ⟨by decide, ?_⟩ | refine ⟨_, f_addL (by decide), ?_⟩)
  simp only [wiStr, wSeq, wAsg, wName, wBin, wVar, wC, wTest, wIfS, wIf, wNext, wRet, wCons, wNil, wCB, wIxK, wIxO, wPutI, wCallB, wPar, wLst, wTup, wUn, wL, wLstL, wRetL, wOr, wAnd, wNot, wOwn, wExt, wApp, wRev, wTake, wGive, wND, slotOf, wFreeze, wCall, wCallL, wCallK, wCallLK, wCallX, wCallXK, wiRng1, wiList, wiTup, wFor, wLcN, wkCl, wkApp, wYes, wgTup, wgCons, wgNil, wLend, lendD, lendS, wipeD, wPre, wWipe, forgetD, wParN, wSetN, wInS, wAddS, Md.may, T.data, Option.map_some, List.map_cons, List.map_nil, List.getElem?_cons_zero, List.getElem?_cons_succ, List.set_cons_zero, List.set_cons_succ, Option.some.injEq, Sl.d.injEq, Sl.o.injEq, T.l.injEq, T.s.injEq, T.d.injEq, PyData.int.injEq, PyData.bool.injEq, exists_eq_left, exists_eq_left', and_assoc, exists_and_left, exists_eq', and_true, true_and, if_true, List.length_cons, List.length_nil, Option.bind_some, List.cons_append, List.nil_append, List.append_nil, f1, f2, wNotV, PyData.tuple.injEq, PyData.list.injEq, PyData.str.injEq, List.cons.injEq, exists_eq_right_right, exists_eq_right, wgStar, wgLst, wSl, woNone, woSome, wOrV, wAndV, wChain, wDrop, wDisp, wDispG, wVals, lookD, xd, as0, ch, clRec, e0, e1, el, xn]
  repeat (first | exact hP | refine ⟨by decide, ?_⟩)
theorem kinds_NoAnswer {fs : List (Str × PyData)} {P : PyData → Prop} (hP : P (.str "NoAnswer")) : w__law_kinds (endsP P) [some (.d (excDt ⟨"NoAnswer", fs⟩)), none, none, none, none, none, none] := by
  have i0 : fIsE tb_NoBase (excDt ⟨"NoAnswer", fs⟩) = some (.bool false) := rfl
  have i1 : fIsE tb_NoText (excDt ⟨"NoAnswer", fs⟩) = some (.bool false) := rfl
  have i2 : fIsE tb_NoRows (excDt ⟨"NoAnswer", fs⟩) = some (.bool false) := rfl
  have i3 : fIsE tb_NoStand (excDt ⟨"NoAnswer", fs⟩) = some (.bool false) := rfl
  have i4 : fIsE tb_NoName (excDt ⟨"NoAnswer", fs⟩) = some (.bool false) := rfl
  have i5 : fIsE tb_NoNumber (excDt ⟨"NoAnswer", fs⟩) = some (.bool false) := rfl
  have i6 : fIsE tb_NoHistory (excDt ⟨"NoAnswer", fs⟩) = some (.bool false) := rfl
  have i7 : fIsE tb_NoCommand (excDt ⟨"NoAnswer", fs⟩) = some (.bool false) := rfl
  have i8 : fIsE tb_NoPart (excDt ⟨"NoAnswer", fs⟩) = some (.bool false) := rfl
  have i9 : fIsE tb_NoRun (excDt ⟨"NoAnswer", fs⟩) = some (.bool false) := rfl
  have i10 : fIsE tb_NoBranch (excDt ⟨"NoAnswer", fs⟩) = some (.bool false) := rfl
  have i11 : fIsE tb_NoCell (excDt ⟨"NoAnswer", fs⟩) = some (.bool false) := rfl
  have i12 : fIsE tb_NoDepth (excDt ⟨"NoAnswer", fs⟩) = some (.bool false) := rfl
  have i13 : fIsE tb_NoAnswer (excDt ⟨"NoAnswer", fs⟩) = some (.bool true) := rfl
  have i14 : fIsE tb_NotAsked (excDt ⟨"NoAnswer", fs⟩) = some (.bool false) := rfl
  have i15 : fIsE tb_Over (excDt ⟨"NoAnswer", fs⟩) = some (.bool false) := rfl
  have j0 : fIsE tb_ValueError (excDt ⟨"NoAnswer", fs⟩) = some (.bool false) := rfl
  have j1 : fIsE tb_KeyError (excDt ⟨"NoAnswer", fs⟩) = some (.bool false) := rfl
  have j2 : fIsE tb_IndexError (excDt ⟨"NoAnswer", fs⟩) = some (.bool false) := rfl
  have j3 : fIsE tb_LookupError (excDt ⟨"NoAnswer", fs⟩) = some (.bool true) := rfl
  have j4 : fIsE tb_RuntimeError (excDt ⟨"NoAnswer", fs⟩) = some (.bool false) := rfl
  generalize excDt ⟨"NoAnswer", fs⟩ = dx at *
  have cn : fCnt (.list [.bool false, .bool false, .bool false, .bool false, .bool false, .bool false, .bool false, .bool false, .bool false, .bool false, .bool false, .bool false, .bool false, .bool true, .bool false, .bool false]) (.bool true) = some (.int 1) := by kernel_rfl
  have ix : fIdx (.list [.bool false, .bool false, .bool false, .bool false, .bool false, .bool false, .bool false, .bool false, .bool false, .bool false, .bool false, .bool false, .bool false, .bool true, .bool false, .bool false]) (.bool true) = some (.int 13) := by kernel_rfl
  have ne1 : fNe (.int 1) (.int 1) = some (.bool false) := rfl
  have r1 : fRep (.list [.str "10000"]) (.int 8) = some (.list [.str "10000", .str "10000", .str "10000", .str "10000", .str "10000", .str "10000", .str "10000", .str "10000"]) := by kernel_rfl
  have r2 : fRep (.list [.str "01010"]) (.int 2) = some (.list [.str "01010", .str "01010"]) := by kernel_rfl
  have r3 : fRep (.list [.str "00110"]) (.int 3) = some (.list [.str "00110", .str "00110", .str "00110"]) := by kernel_rfl
  have xd : fIx (.list [.str "10000", .str "10000", .str "10000", .str "10000", .str "10000", .str "10000", .str "10000", .str "10000", .str "01010", .str "01010", .str "00110", .str "00110", .str "00110", .str "00010", .str "00001", .str "00001"]) (.int 13) = some (.str "00010") := by kernel_rfl
  have xn : fIx (.list [.str "NoBase", .str "NoText", .str "NoRows", .str "NoStand", .str "NoName", .str "NoNumber", .str "NoHistory", .str "NoCommand", .str "NoPart", .str "NoRun", .str "NoBranch", .str "NoCell", .str "NoDepth", .str "NoAnswer", .str "NotAsked", .str "Over"]) (.int 13) = some (.str "NoAnswer") := by kernel_rfl
  have ch : chars "00010" = [.str "0", .str "0", .str "0", .str "1", .str "0"] := rfl
  have as0 : ascC "00010" = true := by decide +kernel
  have e0 : fEq (.str "0") (.str "1") = some (.bool false) := rfl
  have e1 : fEq (.str "1") (.str "1") = some (.bool true) := rfl
  have el : fEq (.list [.bool false, .bool false, .bool false, .bool true, .bool false]) (.list [.bool false, .bool false, .bool false, .bool true, .bool false]) = some (.bool true) := by kernel_rfl
  unfold w__law_kinds
  simp only [wSeq, wAsg, wName, wBin, wVar, wC, wTest, wIfS, wIf, wNext, wRet, wCons, wNil, wCB, wIxK, wIxO, wPutI, wCallB, wPar, wLst, wTup, wUn, wL, wLstL, wRetL, wOr, wAnd, wNot, wOwn, wExt, wApp, wRev, wTake, wGive, wND, slotOf, wFreeze, wCall, wCallL, wCallK, wCallLK, wCallX, wCallXK, wiRng1, wiList, wiTup, wFor, wLcN, wkCl, wkApp, wYes, wgTup, wgCons, wgNil, wLend, lendD, lendS, wipeD, wPre, wWipe, forgetD, wParN, wSetN, wInS, wAddS, Md.may, T.data, Option.map_some, List.map_cons, List.map_nil, List.getElem?_cons_zero, List.getElem?_cons_succ, List.set_cons_zero, List.set_cons_succ, Option.some.injEq, Sl.d.injEq, Sl.o.injEq, T.l.injEq, T.s.injEq, T.d.injEq, PyData.int.injEq, PyData.bool.injEq, exists_eq_left, exists_eq_left', and_assoc, exists_and_left, exists_eq', and_true, true_and, if_true, List.length_cons, List.length_nil, Option.bind_some, List.cons_append, List.nil_append, List.append_nil, f1, f2, wNotV, i0, i1, i2, i3, i4, i5, i6, i7, i8, i9, i10, i11, i12, i13, i14, i15, j0, j1, j2, j3, j4]
  repeat (first | refine ⟨by decide, ?_⟩ | refine ⟨_, f_addL (by decide), ?_⟩)
  simp only [wM2, wSeq, wAsg, wName, wBin, wVar, wC, wTest, wIfS, wIf, wNext, wRet, wCons, wNil, wCB, wIxK, wIxO, wPutI, wCallB, wPar, wLst, wTup, wUn, wL, wLstL, wRetL, wOr, wAnd, wNot, wOwn, wExt, wApp, wRev, wTake, wGive, wND, slotOf, wFreeze, wCall, wCallL, wCallK, wCallLK, wCallX, wCallXK, wiRng1, wiList, wiTup, wFor, wLcN, wkCl, wkApp, wYes, wgTup, wgCons, wgNil, wLend, lendD, lendS, wipeD, wPre, wWipe, forgetD, wParN, wSetN, wInS, wAddS, Md.may, T.data, Option.map_some, List.map_cons, List.map_nil, List.getElem?_cons_zero, List.getElem?_cons_succ, List.set_cons_zero, List.set_cons_succ, Option.some.injEq, Sl.d.injEq, Sl.o.injEq, T.l.injEq, T.s.injEq, T.d.injEq, PyData.int.injEq, PyData.bool.injEq, exists_eq_left, exists_eq_left', and_assoc, exists_and_left, exists_eq', and_true, true_and, if_true, List.length_cons, List.length_nil, Option.bind_some, List.cons_append, List.nil_append, List.append_nil, f1, f2, wNotV, List.cons_append, List.nil_append, cn, ne1, ix, exists_eq_left', Bool.false_eq_true, if_false, PyData.list.injEq, exists_eq']
  try simp only [r1, r2, r3, wSeq, wAsg, wName, wBin, wVar, wC, wTest, wIfS, wIf, wNext, wRet, wCons, wNil, wCB, wIxK, wIxO, wPutI, wCallB, wPar, wLst, wTup, wUn, wL, wLstL, wRetL, wOr, wAnd, wNot, wOwn, wExt, wApp, wRev, wTake, wGive, wND, slotOf, wFreeze, wCall, wCallL, wCallK, wCallLK, wCallX, wCallXK, wiRng1, wiList, wiTup, wFor, wLcN, wkCl, wkApp, wYes, wgTup, wgCons, wgNil, wLend, lendD, lendS, wipeD, wPre, wWipe, forgetD, wParN, wSetN, wInS, wAddS, Md.may, T.data, Option.map_some, List.map_cons, List.map_nil, List.getElem?_cons_zero, List.getElem?_cons_succ, List.set_cons_zero, List.set_cons_succ, Option.some.injEq, Sl.d.injEq, Sl.o.injEq, T.l.injEq, T.s.injEq, T.d.injEq, PyData.int.injEq, PyData.bool.injEq, exists_eq_left, exists_eq_left', and_assoc, exists_and_left, exists_eq', and_true, true_and, if_true, List.length_cons, List.length_nil, Option.bind_some, List.cons_append, List.nil_append, List.append_nil, f1, f2, wNotV, List.cons_append, List.nil_append, PyData.list.injEq]
  repeat (first | refine ⟨by decide, ?_⟩ | refine ⟨_, f_addL (by decide), ?_⟩)
  simp only [wiStr, wSeq, wAsg, wName, wBin, wVar, wC, wTest, wIfS, wIf, wNext, wRet, wCons, wNil, wCB, wIxK, wIxO, wPutI, wCallB, wPar, wLst, wTup, wUn, wL, wLstL, wRetL, wOr, wAnd, wNot, wOwn, wExt, wApp, wRev, wTake, wGive, wND, slotOf, wFreeze, wCall, wCallL, wCallK, wCallLK, wCallX, wCallXK, wiRng1, wiList, wiTup, wFor, wLcN, wkCl, wkApp, wYes, wgTup, wgCons, wgNil, wLend, lendD, lendS, wipeD, wPre, wWipe, forgetD, wParN, wSetN, wInS, wAddS, Md.may, T.data, Option.map_some, List.map_cons, List.map_nil, List.getElem?_cons_zero, List.getElem?_cons_succ, List.set_cons_zero, List.set_cons_succ, Option.some.injEq, Sl.d.injEq, Sl.o.injEq, T.l.injEq, T.s.injEq, T.d.injEq, PyData.int.injEq, PyData.bool.injEq, exists_eq_left, exists_eq_left', and_assoc, exists_and_left, exists_eq', and_true, true_and, if_true, List.length_cons, List.length_nil, Option.bind_some, List.cons_append, List.nil_append, List.append_nil, f1, f2, wNotV, PyData.tuple.injEq, PyData.list.injEq, PyData.str.injEq, List.cons.injEq, exists_eq_right_right, exists_eq_right, wgStar, wgLst, wSl, woNone, woSome, wOrV, wAndV, wChain, wDrop, wDisp, wDispG, wVals, lookD, xd, as0, ch, clRec, e0, e1, el, xn]
  repeat (first | exact hP | refine ⟨by decide, ?_⟩)
theorem kinds_NotAsked {fs : List (Str × PyData)} {P : PyData → Prop} (hP : P (.str "NotAsked")) : w__law_kinds (endsP P) [some (.d (excDt ⟨"NotAsked", fs⟩)), none, none, none, none, none, none] := by
  have i0 : fIsE tb_NoBase (excDt ⟨"NotAsked", fs⟩) = some (.bool false) := rfl
  have i1 : fIsE tb_NoText (excDt ⟨"NotAsked", fs⟩) = some (.bool false) := rfl
  have i2 : fIsE tb_NoRows (excDt ⟨"NotAsked", fs⟩) = some (.bool false) := rfl
  have i3 : fIsE tb_NoStand (excDt ⟨"NotAsked", fs⟩) = some (.bool false) := rfl
  have i4 : fIsE tb_NoName (excDt ⟨"NotAsked", fs⟩) = some (.bool false) := rfl
  have i5 : fIsE tb_NoNumber (excDt ⟨"NotAsked", fs⟩) = some (.bool false) := rfl
  have i6 : fIsE tb_NoHistory (excDt ⟨"NotAsked", fs⟩) = some (.bool false) := rfl
  have i7 : fIsE tb_NoCommand (excDt ⟨"NotAsked", fs⟩) = some (.bool false) := rfl
  have i8 : fIsE tb_NoPart (excDt ⟨"NotAsked", fs⟩) = some (.bool false) := rfl
  have i9 : fIsE tb_NoRun (excDt ⟨"NotAsked", fs⟩) = some (.bool false) := rfl
  have i10 : fIsE tb_NoBranch (excDt ⟨"NotAsked", fs⟩) = some (.bool false) := rfl
  have i11 : fIsE tb_NoCell (excDt ⟨"NotAsked", fs⟩) = some (.bool false) := rfl
  have i12 : fIsE tb_NoDepth (excDt ⟨"NotAsked", fs⟩) = some (.bool false) := rfl
  have i13 : fIsE tb_NoAnswer (excDt ⟨"NotAsked", fs⟩) = some (.bool false) := rfl
  have i14 : fIsE tb_NotAsked (excDt ⟨"NotAsked", fs⟩) = some (.bool true) := rfl
  have i15 : fIsE tb_Over (excDt ⟨"NotAsked", fs⟩) = some (.bool false) := rfl
  have j0 : fIsE tb_ValueError (excDt ⟨"NotAsked", fs⟩) = some (.bool false) := rfl
  have j1 : fIsE tb_KeyError (excDt ⟨"NotAsked", fs⟩) = some (.bool false) := rfl
  have j2 : fIsE tb_IndexError (excDt ⟨"NotAsked", fs⟩) = some (.bool false) := rfl
  have j3 : fIsE tb_LookupError (excDt ⟨"NotAsked", fs⟩) = some (.bool false) := rfl
  have j4 : fIsE tb_RuntimeError (excDt ⟨"NotAsked", fs⟩) = some (.bool true) := rfl
  generalize excDt ⟨"NotAsked", fs⟩ = dx at *
  have cn : fCnt (.list [.bool false, .bool false, .bool false, .bool false, .bool false, .bool false, .bool false, .bool false, .bool false, .bool false, .bool false, .bool false, .bool false, .bool false, .bool true, .bool false]) (.bool true) = some (.int 1) := by kernel_rfl
  have ix : fIdx (.list [.bool false, .bool false, .bool false, .bool false, .bool false, .bool false, .bool false, .bool false, .bool false, .bool false, .bool false, .bool false, .bool false, .bool false, .bool true, .bool false]) (.bool true) = some (.int 14) := by kernel_rfl
  have ne1 : fNe (.int 1) (.int 1) = some (.bool false) := rfl
  have r1 : fRep (.list [.str "10000"]) (.int 8) = some (.list [.str "10000", .str "10000", .str "10000", .str "10000", .str "10000", .str "10000", .str "10000", .str "10000"]) := by kernel_rfl
  have r2 : fRep (.list [.str "01010"]) (.int 2) = some (.list [.str "01010", .str "01010"]) := by kernel_rfl
  have r3 : fRep (.list [.str "00110"]) (.int 3) = some (.list [.str "00110", .str "00110", .str "00110"]) := by kernel_rfl
  have xd : fIx (.list [.str "10000", .str "10000", .str "10000", .str "10000", .str "10000", .str "10000", .str "10000", .str "10000", .str "01010", .str "01010", .str "00110", .str "00110", .str "00110", .str "00010", .str "00001", .str "00001"]) (.int 14) = some (.str "00001") := by kernel_rfl
  have xn : fIx (.list [.str "NoBase", .str "NoText", .str "NoRows", .str "NoStand", .str "NoName", .str "NoNumber", .str "NoHistory", .str "NoCommand", .str "NoPart", .str "NoRun", .str "NoBranch", .str "NoCell", .str "NoDepth", .str "NoAnswer", .str "NotAsked", .str "Over"]) (.int 14) = some (.str "NotAsked") := by kernel_rfl
  have ch : chars "00001" = [.str "0", .str "0", .str "0", .str "0", .str "1"] := rfl
  have as0 : ascC "00001" = true := by decide +kernel
  have e0 : fEq (.str "0") (.str "1") = some (.bool false) := rfl
  have e1 : fEq (.str "1") (.str "1") = some (.bool true) := rfl
  have el : fEq (.list [.bool false, .bool false, .bool false, .bool false, .bool true]) (.list [.bool false, .bool false, .bool false, .bool false, .bool true]) = some (.bool true) := by kernel_rfl
  unfold w__law_kinds
  simp only [wSeq, wAsg, wName, wBin, wVar, wC, wTest, wIfS, wIf, wNext, wRet, wCons, wNil, wCB, wIxK, wIxO, wPutI, wCallB, wPar, wLst, wTup, wUn, wL, wLstL, wRetL, wOr, wAnd, wNot, wOwn, wExt, wApp, wRev, wTake, wGive, wND, slotOf, wFreeze, wCall, wCallL, wCallK, wCallLK, wCallX, wCallXK, wiRng1, wiList, wiTup, wFor, wLcN, wkCl, wkApp, wYes, wgTup, wgCons, wgNil, wLend, lendD, lendS, wipeD, wPre, wWipe, forgetD, wParN, wSetN, wInS, wAddS, Md.may, T.data, Option.map_some, List.map_cons, List.map_nil, List.getElem?_cons_zero, List.getElem?_cons_succ, List.set_cons_zero, List.set_cons_succ, Option.some.injEq, Sl.d.injEq, Sl.o.injEq, T.l.injEq, T.s.injEq, T.d.injEq, PyData.int.injEq, PyData.bool.injEq, exists_eq_left, exists_eq_left', and_assoc, exists_and_left, exists_eq', and_true, true_and, if_true, List.length_cons, List.length_nil, Option.bind_some, List.cons_append, List.nil_append, List.append_nil, f1, f2, wNotV, i0, i1, i2, i3, i4, i5, i6, i7, i8, i9, i10, i11, i12, i13, i14, i15, j0, j1, j2, j3, j4]
  repeat (first | refine ⟨by decide, ?_⟩ | refine ⟨_, f_addL (by decide), ?_⟩)
  simp only [wM2, wSeq, wAsg, wName, wBin, wVar, wC, wTest, wIfS, wIf, wNext, wRet, wCons, wNil, wCB, wIxK, wIxO, wPutI, wCallB, wPar, wLst, wTup, wUn, wL, wLstL, wRetL, wOr, wAnd, wNot, wOwn, wExt, wApp, wRev, wTake, wGive, wND, slotOf, wFreeze, wCall, wCallL, wCallK, wCallLK, wCallX, wCallXK, wiRng1, wiList, wiTup, wFor, wLcN, wkCl, wkApp, wYes, wgTup, wgCons, wgNil, wLend, lendD, lendS, wipeD, wPre, wWipe, forgetD, wParN, wSetN, wInS, wAddS, Md.may, T.data, Option.map_some, List.map_cons, List.map_nil, List.getElem?_cons_zero, List.getElem?_cons_succ, List.set_cons_zero, List.set_cons_succ, Option.some.injEq, Sl.d.injEq, Sl.o.injEq, T.l.injEq, T.s.injEq, T.d.injEq, PyData.int.injEq, PyData.bool.injEq, exists_eq_left, exists_eq_left', and_assoc, exists_and_left, exists_eq', and_true, true_and, if_true, List.length_cons, List.length_nil, Option.bind_some, List.cons_append, List.nil_append, List.append_nil, f1, f2, wNotV, List.cons_append, List.nil_append, cn, ne1, ix, exists_eq_left', Bool.false_eq_true, if_false, PyData.list.injEq, exists_eq']
  try simp only [r1, r2, r3, wSeq, wAsg, wName, wBin, wVar, wC, wTest, wIfS, wIf, wNext, wRet, wCons, wNil, wCB, wIxK, wIxO, wPutI, wCallB, wPar, wLst, wTup, wUn, wL, wLstL, wRetL, wOr, wAnd, wNot, wOwn, wExt, wApp, wRev, wTake, wGive, wND, slotOf, wFreeze, wCall, wCallL, wCallK, wCallLK, wCallX, wCallXK, wiRng1, wiList, wiTup, wFor, wLcN, wkCl, wkApp, wYes, wgTup, wgCons, wgNil, wLend, lendD, lendS, wipeD, wPre, wWipe, forgetD, wParN, wSetN, wInS, wAddS, Md.may, T.data, Option.map_some, List.map_cons, List.map_nil, List.getElem?_cons_zero, List.getElem?_cons_succ, List.set_cons_zero, List.set_cons_succ, Option.some.injEq, Sl.d.injEq, Sl.o.injEq, T.l.injEq, T.s.injEq, T.d.injEq, PyData.int.injEq, PyData.bool.injEq, exists_eq_left, exists_eq_left', and_assoc, exists_and_left, exists_eq', and_true, true_and, if_true, List.length_cons, List.length_nil, Option.bind_some, List.cons_append, List.nil_append, List.append_nil, f1, f2, wNotV, List.cons_append, List.nil_append, PyData.list.injEq]
  repeat (first | refine ⟨by decide, ?_⟩ | refine ⟨_, f_addL (by decide), ?_⟩)
  simp only [wiStr, wSeq, wAsg, wName, wBin, wVar, wC, wTest, wIfS, wIf, wNext, wRet, wCons, wNil, wCB, wIxK, wIxO, wPutI, wCallB, wPar, wLst, wTup, wUn, wL, wLstL, wRetL, wOr, wAnd, wNot, wOwn, wExt, wApp, wRev, wTake, wGive, wND, slotOf, wFreeze, wCall, wCallL, wCallK, wCallLK, wCallX, wCallXK, wiRng1, wiList, wiTup, wFor, wLcN, wkCl, wkApp, wYes, wgTup, wgCons, wgNil, wLend, lendD, lendS, wipeD, wPre, wWipe, forgetD, wParN, wSetN, wInS, wAddS, Md.may, T.data, Option.map_some, List.map_cons, List.map_nil, List.getElem?_cons_zero, List.getElem?_cons_succ, List.set_cons_zero, List.set_cons_succ, Option.some.injEq, Sl.d.injEq, Sl.o.injEq, T.l.injEq, T.s.injEq, T.d.injEq, PyData.int.injEq, PyData.bool.injEq, exists_eq_left, exists_eq_left', and_assoc, exists_and_left, exists_eq', and_true, true_and, if_true, List.length_cons, List.length_nil, Option.bind_some, List.cons_append, List.nil_append, List.append_nil, f1, f2, wNotV, PyData.tuple.injEq, PyData.list.injEq, PyData.str.injEq, List.cons.injEq, exists_eq_right_right, exists_eq_right, wgStar, wgLst, wSl, woNone, woSome, wOrV, wAndV, wChain, wDrop, wDisp, wDispG, wVals, lookD, xd, as0, ch, clRec, e0, e1, el, xn]
  repeat (first | exact hP | refine ⟨by decide, ?_⟩)
theorem kinds_Over {fs : List (Str × PyData)} {P : PyData → Prop} (hP : P (.str "Over")) : w__law_kinds (endsP P) [some (.d (excDt ⟨"Over", fs⟩)), none, none, none, none, none, none] := by
  have i0 : fIsE tb_NoBase (excDt ⟨"Over", fs⟩) = some (.bool false) := rfl
  have i1 : fIsE tb_NoText (excDt ⟨"Over", fs⟩) = some (.bool false) := rfl
  have i2 : fIsE tb_NoRows (excDt ⟨"Over", fs⟩) = some (.bool false) := rfl
  have i3 : fIsE tb_NoStand (excDt ⟨"Over", fs⟩) = some (.bool false) := rfl
  have i4 : fIsE tb_NoName (excDt ⟨"Over", fs⟩) = some (.bool false) := rfl
  have i5 : fIsE tb_NoNumber (excDt ⟨"Over", fs⟩) = some (.bool false) := rfl
  have i6 : fIsE tb_NoHistory (excDt ⟨"Over", fs⟩) = some (.bool false) := rfl
  have i7 : fIsE tb_NoCommand (excDt ⟨"Over", fs⟩) = some (.bool false) := rfl
  have i8 : fIsE tb_NoPart (excDt ⟨"Over", fs⟩) = some (.bool false) := rfl
  have i9 : fIsE tb_NoRun (excDt ⟨"Over", fs⟩) = some (.bool false) := rfl
  have i10 : fIsE tb_NoBranch (excDt ⟨"Over", fs⟩) = some (.bool false) := rfl
  have i11 : fIsE tb_NoCell (excDt ⟨"Over", fs⟩) = some (.bool false) := rfl
  have i12 : fIsE tb_NoDepth (excDt ⟨"Over", fs⟩) = some (.bool false) := rfl
  have i13 : fIsE tb_NoAnswer (excDt ⟨"Over", fs⟩) = some (.bool false) := rfl
  have i14 : fIsE tb_NotAsked (excDt ⟨"Over", fs⟩) = some (.bool false) := rfl
  have i15 : fIsE tb_Over (excDt ⟨"Over", fs⟩) = some (.bool true) := rfl
  have j0 : fIsE tb_ValueError (excDt ⟨"Over", fs⟩) = some (.bool false) := rfl
  have j1 : fIsE tb_KeyError (excDt ⟨"Over", fs⟩) = some (.bool false) := rfl
  have j2 : fIsE tb_IndexError (excDt ⟨"Over", fs⟩) = some (.bool false) := rfl
  have j3 : fIsE tb_LookupError (excDt ⟨"Over", fs⟩) = some (.bool false) := rfl
  have j4 : fIsE tb_RuntimeError (excDt ⟨"Over", fs⟩) = some (.bool true) := rfl
  generalize excDt ⟨"Over", fs⟩ = dx at *
  have cn : fCnt (.list [.bool false, .bool false, .bool false, .bool false, .bool false, .bool false, .bool false, .bool false, .bool false, .bool false, .bool false, .bool false, .bool false, .bool false, .bool false, .bool true]) (.bool true) = some (.int 1) := by kernel_rfl
  have ix : fIdx (.list [.bool false, .bool false, .bool false, .bool false, .bool false, .bool false, .bool false, .bool false, .bool false, .bool false, .bool false, .bool false, .bool false, .bool false, .bool false, .bool true]) (.bool true) = some (.int 15) := by kernel_rfl
  have ne1 : fNe (.int 1) (.int 1) = some (.bool false) := rfl
  have r1 : fRep (.list [.str "10000"]) (.int 8) = some (.list [.str "10000", .str "10000", .str "10000", .str "10000", .str "10000", .str "10000", .str "10000", .str "10000"]) := by kernel_rfl
  have r2 : fRep (.list [.str "01010"]) (.int 2) = some (.list [.str "01010", .str "01010"]) := by kernel_rfl
  have r3 : fRep (.list [.str "00110"]) (.int 3) = some (.list [.str "00110", .str "00110", .str "00110"]) := by kernel_rfl
  have xd : fIx (.list [.str "10000", .str "10000", .str "10000", .str "10000", .str "10000", .str "10000", .str "10000", .str "10000", .str "01010", .str "01010", .str "00110", .str "00110", .str "00110", .str "00010", .str "00001", .str "00001"]) (.int 15) = some (.str "00001") := by kernel_rfl
  have xn : fIx (.list [.str "NoBase", .str "NoText", .str "NoRows", .str "NoStand", .str "NoName", .str "NoNumber", .str "NoHistory", .str "NoCommand", .str "NoPart", .str "NoRun", .str "NoBranch", .str "NoCell", .str "NoDepth", .str "NoAnswer", .str "NotAsked", .str "Over"]) (.int 15) = some (.str "Over") := by kernel_rfl
  have ch : chars "00001" = [.str "0", .str "0", .str "0", .str "0", .str "1"] := rfl
  have as0 : ascC "00001" = true := by decide +kernel
  have e0 : fEq (.str "0") (.str "1") = some (.bool false) := rfl
  have e1 : fEq (.str "1") (.str "1") = some (.bool true) := rfl
  have el : fEq (.list [.bool false, .bool false, .bool false, .bool false, .bool true]) (.list [.bool false, .bool false, .bool false, .bool false, .bool true]) = some (.bool true) := by kernel_rfl
  unfold w__law_kinds
  simp only [wSeq, wAsg, wName, wBin, wVar, wC, wTest, wIfS, wIf, wNext, wRet, wCons, wNil, wCB, wIxK, wIxO, wPutI, wCallB, wPar, wLst, wTup, wUn, wL, wLstL, wRetL, wOr, wAnd, wNot, wOwn, wExt, wApp, wRev, wTake, wGive, wND, slotOf, wFreeze, wCall, wCallL, wCallK, wCallLK, wCallX, wCallXK, wiRng1, wiList, wiTup, wFor, wLcN, wkCl, wkApp, wYes, wgTup, wgCons, wgNil, wLend, lendD, lendS, wipeD, wPre, wWipe, forgetD, wParN, wSetN, wInS, wAddS, Md.may, T.data, Option.map_some, List.map_cons, List.map_nil, List.getElem?_cons_zero, List.getElem?_cons_succ, List.set_cons_zero, List.set_cons_succ, Option.some.injEq, Sl.d.injEq, Sl.o.injEq, T.l.injEq, T.s.injEq, T.d.injEq, PyData.int.injEq, PyData.bool.injEq, exists_eq_left, exists_eq_left', and_assoc, exists_and_left, exists_eq', and_true, true_and, if_true, List.length_cons, List.length_nil, Option.bind_some, List.cons_append, List.nil_append, List.append_nil, f1, f2, wNotV, i0, i1, i2, i3, i4, i5, i6, i7, i8, i9, i10, i11, i12, i13, i14, i15, j0, j1, j2, j3, j4]
  repeat (first | refine ⟨by decide, ?_⟩ | refine ⟨_, f_addL (by decide), ?_⟩)
  simp only [wM2, wSeq, wAsg, wName, wBin, wVar, wC, wTest, wIfS, wIf, wNext, wRet, wCons, wNil, wCB, wIxK, wIxO, wPutI, wCallB, wPar, wLst, wTup, wUn, wL, wLstL, wRetL, wOr, wAnd, wNot, wOwn, wExt, wApp, wRev, wTake, wGive, wND, slotOf, wFreeze, wCall, wCallL, wCallK, wCallLK, wCallX, wCallXK, wiRng1, wiList, wiTup, wFor, wLcN, wkCl, wkApp, wYes, wgTup, wgCons, wgNil, wLend, lendD, lendS, wipeD, wPre, wWipe, forgetD, wParN, wSetN, wInS, wAddS, Md.may, T.data, Option.map_some, List.map_cons, List.map_nil, List.getElem?_cons_zero, List.getElem?_cons_succ, List.set_cons_zero, List.set_cons_succ, Option.some.injEq, Sl.d.injEq, Sl.o.injEq, T.l.injEq, T.s.injEq, T.d.injEq, PyData.int.injEq, PyData.bool.injEq, exists_eq_left, exists_eq_left', and_assoc, exists_and_left, exists_eq', and_true, true_and, if_true, List.length_cons, List.length_nil, Option.bind_some, List.cons_append, List.nil_append, List.append_nil, f1, f2, wNotV, List.cons_append, List.nil_append, cn, ne1, ix, exists_eq_left', Bool.false_eq_true, if_false, PyData.list.injEq, exists_eq']
  try simp only [r1, r2, r3, wSeq, wAsg, wName, wBin, wVar, wC, wTest, wIfS, wIf, wNext, wRet, wCons, wNil, wCB, wIxK, wIxO, wPutI, wCallB, wPar, wLst, wTup, wUn, wL, wLstL, wRetL, wOr, wAnd, wNot, wOwn, wExt, wApp, wRev, wTake, wGive, wND, slotOf, wFreeze, wCall, wCallL, wCallK, wCallLK, wCallX, wCallXK, wiRng1, wiList, wiTup, wFor, wLcN, wkCl, wkApp, wYes, wgTup, wgCons, wgNil, wLend, lendD, lendS, wipeD, wPre, wWipe, forgetD, wParN, wSetN, wInS, wAddS, Md.may, T.data, Option.map_some, List.map_cons, List.map_nil, List.getElem?_cons_zero, List.getElem?_cons_succ, List.set_cons_zero, List.set_cons_succ, Option.some.injEq, Sl.d.injEq, Sl.o.injEq, T.l.injEq, T.s.injEq, T.d.injEq, PyData.int.injEq, PyData.bool.injEq, exists_eq_left, exists_eq_left', and_assoc, exists_and_left, exists_eq', and_true, true_and, if_true, List.length_cons, List.length_nil, Option.bind_some, List.cons_append, List.nil_append, List.append_nil, f1, f2, wNotV, List.cons_append, List.nil_append, PyData.list.injEq]
  repeat (first | refine ⟨by decide, ?_⟩ | refine ⟨_, f_addL (by decide), ?_⟩)
  simp only [wiStr, wSeq, wAsg, wName, wBin, wVar, wC, wTest, wIfS, wIf, wNext, wRet, wCons, wNil, wCB, wIxK, wIxO, wPutI, wCallB, wPar, wLst, wTup, wUn, wL, wLstL, wRetL, wOr, wAnd, wNot, wOwn, wExt, wApp, wRev, wTake, wGive, wND, slotOf, wFreeze, wCall, wCallL, wCallK, wCallLK, wCallX, wCallXK, wiRng1, wiList, wiTup, wFor, wLcN, wkCl, wkApp, wYes, wgTup, wgCons, wgNil, wLend, lendD, lendS, wipeD, wPre, wWipe, forgetD, wParN, wSetN, wInS, wAddS, Md.may, T.data, Option.map_some, List.map_cons, List.map_nil, List.getElem?_cons_zero, List.getElem?_cons_succ, List.set_cons_zero, List.set_cons_succ, Option.some.injEq, Sl.d.injEq, Sl.o.injEq, T.l.injEq, T.s.injEq, T.d.injEq, PyData.int.injEq, PyData.bool.injEq, exists_eq_left, exists_eq_left', and_assoc, exists_and_left, exists_eq', and_true, true_and, if_true, List.length_cons, List.length_nil, Option.bind_some, List.cons_append, List.nil_append, List.append_nil, f1, f2, wNotV, PyData.tuple.injEq, PyData.list.injEq, PyData.str.injEq, List.cons.injEq, exists_eq_right_right, exists_eq_right, wgStar, wgLst, wSl, woNone, woSome, wOrV, wAndV, wChain, wDrop, wDisp, wDispG, wVals, lookD, xd, as0, ch, clRec, e0, e1, el, xn]
  repeat (first | exact hP | refine ⟨by decide, ?_⟩)
theorem wp__law_kinds (xs : List PyData) (P : PyData → Prop) (h : wf__law_kinds xs P) : w__law_kinds (endsP P) (startN 7 xs) := by
  obtain ⟨c, fs, rfl, hc, hP⟩ := h
  show w__law_kinds (endsP P) [some (.d (excDt ⟨c, fs⟩)), none, none, none, none, none, none]
  simp only [clsL, List.mem_cons, List.not_mem_nil, or_false] at hc
  rcases hc with rfl | rfl | rfl | rfl | rfl | rfl | rfl | rfl | rfl | rfl | rfl | rfl | rfl | rfl | rfl | rfl
  · exact kinds_NoBase hP
  · exact kinds_NoText hP
  · exact kinds_NoRows hP
  · exact kinds_NoStand hP
  · exact kinds_NoName hP
  · exact kinds_NoNumber hP
  · exact kinds_NoHistory hP
  · exact kinds_NoCommand hP
  · exact kinds_NoPart hP
  · exact kinds_NoRun hP
  · exact kinds_NoBranch hP
  · exact kinds_NoCell hP
  · exact kinds_NoDepth hP
  · exact kinds_NoAnswer hP
  · exact kinds_NotAsked hP
  · exact kinds_Over hP
theorem kinds_use {c : Str} {fs : List (Str × PyData)} {P : PyData → Prop} (hc : c ∈ clsL) (h : P (.str c)) : wf__law_kinds [excDt ⟨c, fs⟩] P := ⟨c, fs, rfl, hc, h⟩
/-! ### the field -/
def tbl : List (Str × Str) := [("NoBase", "base"), ("NoText", "row"), ("NoName", "name"), ("NoPart", "name"), ("NoNumber", "number"), ("NoHistory", "at"), ("NoRun", "run"), ("NoBranch", "at"), ("NoCell", "cell"), ("NoDepth", "depth"), ("Over", "run"), ("NoAnswer", "run"), ("NotAsked", "run")]
theorem tbl_cls : ∀ p ∈ tbl, p.1 ∈ clsL := by decide +kernel
def wf__law_field : WF := fun xs P => ∃ (c f : Str) (y : PyData), xs = [excDt ⟨c, [(f, y)]⟩, .str c] ∧ (c, f) ∈ tbl ∧ P y
def w__law_field : WS := (wSeq (wIfS (wTest (wBin fEq (wVar 1) (wC (.str "NoBase")))) (wRet (wUn (fXf ["NoBase"] "base") (wVar 0))) wNext)
    (wSeq (wIfS (wTest (wBin fEq (wVar 1) (wC (.str "NoCell")))) (wRet (wUn (fXf ["NoCell"] "cell") (wVar 0))) wNext)
    (wSeq (wIfS (wTest (wBin fEq (wVar 1) (wC (.str "NoDepth")))) (wRet (wUn (fXf ["NoDepth"] "depth") (wVar 0))) wNext)
    (wSeq (wIfS (wTest (wBin (fIn false) (wVar 1) (wTup (wCons (wC (.str "NoText")) (wCons (wC (.str "NoHistory")) (wCons (wC (.str "NoBranch")) wNil)))))) (wRet (wIf (wTest (wBin fEq (wVar 1) (wC (.str "NoText")))) (wUn (fXf ["NoText"] "row") (wVar 0)) (wUn (fXf ["NoHistory", "NoBranch"] "at") (wVar 0)))) wNext)
    (wSeq (wIfS (wTest (wBin (fIn false) (wVar 1) (wTup (wCons (wC (.str "NoName")) (wCons (wC (.str "NoPart")) wNil))))) (wRet (wUn (fXf ["NoName", "NoPart"] "name") (wVar 0))) wNext)
    (wRet (wIf (wTest (wBin fEq (wVar 1) (wC (.str "NoNumber")))) (wUn (fXf ["NoNumber"] "number") (wVar 0)) (wUn (fXf ["NoRun", "NoAnswer", "NotAsked", "Over"] "run") (wVar 0)))))))))
theorem wl__law_field (xs : List PyData) (P : PyData → Prop) (h : wf__law_field xs P) : xs.length = 2 := by
  obtain ⟨_, _, _, rfl, _⟩ := h
  rfl
theorem field_NoBase {y : PyData} {P : PyData → Prop} (hP : P y) : w__law_field (endsP P) [some (.d (excDt ⟨"NoBase", [("base", y)]⟩)), some (.d (.str "NoBase"))] := by
  have xf : fXf ["NoBase"] "base" (excDt ⟨"NoBase", [("base", y)]⟩) = some y := rfl
  have e0 : fEq (.str "NoBase") (.str "NoBase") = some (.bool true) := rfl
  have e1 : fEq (.str "NoBase") (.str "NoCell") = some (.bool false) := rfl
  have e2 : fEq (.str "NoBase") (.str "NoDepth") = some (.bool false) := rfl
  have e3 : fEq (.str "NoBase") (.str "NoText") = some (.bool false) := rfl
  have e4 : fEq (.str "NoBase") (.str "NoNumber") = some (.bool false) := rfl
  have n3 : fIn false (.str "NoBase") (.tuple [.str "NoText", .str "NoHistory", .str "NoBranch"]) = some (.bool false) := by kernel_rfl
  have n2 : fIn false (.str "NoBase") (.tuple [.str "NoName", .str "NoPart"]) = some (.bool false) := by kernel_rfl
  generalize excDt ⟨"NoBase", [("base", y)]⟩ = dx at *
  unfold w__law_field
  simp only [wSeq, wAsg, wName, wBin, wVar, wC, wTest, wIfS, wIf, wNext, wRet, wCons, wNil, wCB, wIxK, wIxO, wPutI, wCallB, wPar, wLst, wTup, wUn, wL, wLstL, wRetL, wOr, wAnd, wNot, wOwn, wExt, wApp, wRev, wTake, wGive, wND, slotOf, wFreeze, wCall, wCallL, wCallK, wCallLK, wCallX, wCallXK, wiRng1, wiList, wiTup, wFor, wLcN, wkCl, wkApp, wYes, wgTup, wgCons, wgNil, wLend, lendD, lendS, wipeD, wPre, wWipe, forgetD, wParN, wSetN, wInS, wAddS, Md.may, T.data, Option.map_some, List.map_cons, List.map_nil, List.getElem?_cons_zero, List.getElem?_cons_succ, List.set_cons_zero, List.set_cons_succ, Option.some.injEq, Sl.d.injEq, Sl.o.injEq, T.l.injEq, T.s.injEq, T.d.injEq, PyData.int.injEq, PyData.bool.injEq, exists_eq_left, exists_eq_left', and_assoc, exists_and_left, exists_eq', and_true, true_and, if_true, List.length_cons, List.length_nil, Option.bind_some, List.cons_append, List.nil_append, List.append_nil, f1, f2, wNotV, PyData.tuple.injEq, PyData.list.injEq, PyData.str.injEq, List.cons.injEq, exists_eq_right_right, exists_eq_right, wgStar, wgLst, wSl, woNone, woSome, wOrV, wAndV, wChain, wDrop, wDisp, wDispG, wVals, lookD, xf, e0, e1, e2, e3, e4, n3, n2, Bool.false_eq_true, if_false]
  repeat (first | exact hP | refine ⟨by decide, ?_⟩)
theorem field_NoText {y : PyData} {P : PyData → Prop} (hP : P y) : w__law_field (endsP P) [some (.d (excDt ⟨"NoText", [("row", y)]⟩)), some (.d (.str "NoText"))] := by
  have xf : fXf ["NoText"] "row" (excDt ⟨"NoText", [("row", y)]⟩) = some y := rfl
  have e0 : fEq (.str "NoText") (.str "NoBase") = some (.bool false) := rfl
  have e1 : fEq (.str "NoText") (.str "NoCell") = some (.bool false) := rfl
  have e2 : fEq (.str "NoText") (.str "NoDepth") = some (.bool false) := rfl
  have e3 : fEq (.str "NoText") (.str "NoText") = some (.bool true) := rfl
  have e4 : fEq (.str "NoText") (.str "NoNumber") = some (.bool false) := rfl
  have n3 : fIn false (.str "NoText") (.tuple [.str "NoText", .str "NoHistory", .str "NoBranch"]) = some (.bool true) := by kernel_rfl
  have n2 : fIn false (.str "NoText") (.tuple [.str "NoName", .str "NoPart"]) = some (.bool false) := by kernel_rfl
  generalize excDt ⟨"NoText", [("row", y)]⟩ = dx at *
  unfold w__law_field
  simp only [wSeq, wAsg, wName, wBin, wVar, wC, wTest, wIfS, wIf, wNext, wRet, wCons, wNil, wCB, wIxK, wIxO, wPutI, wCallB, wPar, wLst, wTup, wUn, wL, wLstL, wRetL, wOr, wAnd, wNot, wOwn, wExt, wApp, wRev, wTake, wGive, wND, slotOf, wFreeze, wCall, wCallL, wCallK, wCallLK, wCallX, wCallXK, wiRng1, wiList, wiTup, wFor, wLcN, wkCl, wkApp, wYes, wgTup, wgCons, wgNil, wLend, lendD, lendS, wipeD, wPre, wWipe, forgetD, wParN, wSetN, wInS, wAddS, Md.may, T.data, Option.map_some, List.map_cons, List.map_nil, List.getElem?_cons_zero, List.getElem?_cons_succ, List.set_cons_zero, List.set_cons_succ, Option.some.injEq, Sl.d.injEq, Sl.o.injEq, T.l.injEq, T.s.injEq, T.d.injEq, PyData.int.injEq, PyData.bool.injEq, exists_eq_left, exists_eq_left', and_assoc, exists_and_left, exists_eq', and_true, true_and, if_true, List.length_cons, List.length_nil, Option.bind_some, List.cons_append, List.nil_append, List.append_nil, f1, f2, wNotV, PyData.tuple.injEq, PyData.list.injEq, PyData.str.injEq, List.cons.injEq, exists_eq_right_right, exists_eq_right, wgStar, wgLst, wSl, woNone, woSome, wOrV, wAndV, wChain, wDrop, wDisp, wDispG, wVals, lookD, xf, e0, e1, e2, e3, e4, n3, n2, Bool.false_eq_true, if_false]
  repeat (first | exact hP | refine ⟨by decide, ?_⟩)
theorem field_NoName {y : PyData} {P : PyData → Prop} (hP : P y) : w__law_field (endsP P) [some (.d (excDt ⟨"NoName", [("name", y)]⟩)), some (.d (.str "NoName"))] := by
  have xf : fXf ["NoName", "NoPart"] "name" (excDt ⟨"NoName", [("name", y)]⟩) = some y := rfl
  have e0 : fEq (.str "NoName") (.str "NoBase") = some (.bool false) := rfl
  have e1 : fEq (.str "NoName") (.str "NoCell") = some (.bool false) := rfl
  have e2 : fEq (.str "NoName") (.str "NoDepth") = some (.bool false) := rfl
  have e3 : fEq (.str "NoName") (.str "NoText") = some (.bool false) := rfl
  have e4 : fEq (.str "NoName") (.str "NoNumber") = some (.bool false) := rfl
  have n3 : fIn false (.str "NoName") (.tuple [.str "NoText", .str "NoHistory", .str "NoBranch"]) = some (.bool false) := by kernel_rfl
  have n2 : fIn false (.str "NoName") (.tuple [.str "NoName", .str "NoPart"]) = some (.bool true) := by kernel_rfl
  generalize excDt ⟨"NoName", [("name", y)]⟩ = dx at *
  unfold w__law_field
  simp only [wSeq, wAsg, wName, wBin, wVar, wC, wTest, wIfS, wIf, wNext, wRet, wCons, wNil, wCB, wIxK, wIxO, wPutI, wCallB, wPar, wLst, wTup, wUn, wL, wLstL, wRetL, wOr, wAnd, wNot, wOwn, wExt, wApp, wRev, wTake, wGive, wND, slotOf, wFreeze, wCall, wCallL, wCallK, wCallLK, wCallX, wCallXK, wiRng1, wiList, wiTup, wFor, wLcN, wkCl, wkApp, wYes, wgTup, wgCons, wgNil, wLend, lendD, lendS, wipeD, wPre, wWipe, forgetD, wParN, wSetN, wInS, wAddS, Md.may, T.data, Option.map_some, List.map_cons, List.map_nil, List.getElem?_cons_zero, List.getElem?_cons_succ, List.set_cons_zero, List.set_cons_succ, Option.some.injEq, Sl.d.injEq, Sl.o.injEq, T.l.injEq, T.s.injEq, T.d.injEq, PyData.int.injEq, PyData.bool.injEq, exists_eq_left, exists_eq_left', and_assoc, exists_and_left, exists_eq', and_true, true_and, if_true, List.length_cons, List.length_nil, Option.bind_some, List.cons_append, List.nil_append, List.append_nil, f1, f2, wNotV, PyData.tuple.injEq, PyData.list.injEq, PyData.str.injEq, List.cons.injEq, exists_eq_right_right, exists_eq_right, wgStar, wgLst, wSl, woNone, woSome, wOrV, wAndV, wChain, wDrop, wDisp, wDispG, wVals, lookD, xf, e0, e1, e2, e3, e4, n3, n2, Bool.false_eq_true, if_false]
  repeat (first | exact hP | refine ⟨by decide, ?_⟩)
theorem field_NoPart {y : PyData} {P : PyData → Prop} (hP : P y) : w__law_field (endsP P) [some (.d (excDt ⟨"NoPart", [("name", y)]⟩)), some (.d (.str "NoPart"))] := by
  have xf : fXf ["NoName", "NoPart"] "name" (excDt ⟨"NoPart", [("name", y)]⟩) = some y := rfl
  have e0 : fEq (.str "NoPart") (.str "NoBase") = some (.bool false) := rfl
  have e1 : fEq (.str "NoPart") (.str "NoCell") = some (.bool false) := rfl
  have e2 : fEq (.str "NoPart") (.str "NoDepth") = some (.bool false) := rfl
  have e3 : fEq (.str "NoPart") (.str "NoText") = some (.bool false) := rfl
  have e4 : fEq (.str "NoPart") (.str "NoNumber") = some (.bool false) := rfl
  have n3 : fIn false (.str "NoPart") (.tuple [.str "NoText", .str "NoHistory", .str "NoBranch"]) = some (.bool false) := by kernel_rfl
  have n2 : fIn false (.str "NoPart") (.tuple [.str "NoName", .str "NoPart"]) = some (.bool true) := by kernel_rfl
  generalize excDt ⟨"NoPart", [("name", y)]⟩ = dx at *
  unfold w__law_field
  simp only [wSeq, wAsg, wName, wBin, wVar, wC, wTest, wIfS, wIf, wNext, wRet, wCons, wNil, wCB, wIxK, wIxO, wPutI, wCallB, wPar, wLst, wTup, wUn, wL, wLstL, wRetL, wOr, wAnd, wNot, wOwn, wExt, wApp, wRev, wTake, wGive, wND, slotOf, wFreeze, wCall, wCallL, wCallK, wCallLK, wCallX, wCallXK, wiRng1, wiList, wiTup, wFor, wLcN, wkCl, wkApp, wYes, wgTup, wgCons, wgNil, wLend, lendD, lendS, wipeD, wPre, wWipe, forgetD, wParN, wSetN, wInS, wAddS, Md.may, T.data, Option.map_some, List.map_cons, List.map_nil, List.getElem?_cons_zero, List.getElem?_cons_succ, List.set_cons_zero, List.set_cons_succ, Option.some.injEq, Sl.d.injEq, Sl.o.injEq, T.l.injEq, T.s.injEq, T.d.injEq, PyData.int.injEq, PyData.bool.injEq, exists_eq_left, exists_eq_left', and_assoc, exists_and_left, exists_eq', and_true, true_and, if_true, List.length_cons, List.length_nil, Option.bind_some, List.cons_append, List.nil_append, List.append_nil, f1, f2, wNotV, PyData.tuple.injEq, PyData.list.injEq, PyData.str.injEq, List.cons.injEq, exists_eq_right_right, exists_eq_right, wgStar, wgLst, wSl, woNone, woSome, wOrV, wAndV, wChain, wDrop, wDisp, wDispG, wVals, lookD, xf, e0, e1, e2, e3, e4, n3, n2, Bool.false_eq_true, if_false]
  repeat (first | exact hP | refine ⟨by decide, ?_⟩)
theorem field_NoNumber {y : PyData} {P : PyData → Prop} (hP : P y) : w__law_field (endsP P) [some (.d (excDt ⟨"NoNumber", [("number", y)]⟩)), some (.d (.str "NoNumber"))] := by
  have xf : fXf ["NoNumber"] "number" (excDt ⟨"NoNumber", [("number", y)]⟩) = some y := rfl
  have e0 : fEq (.str "NoNumber") (.str "NoBase") = some (.bool false) := rfl
  have e1 : fEq (.str "NoNumber") (.str "NoCell") = some (.bool false) := rfl
  have e2 : fEq (.str "NoNumber") (.str "NoDepth") = some (.bool false) := rfl
  have e3 : fEq (.str "NoNumber") (.str "NoText") = some (.bool false) := rfl
  have e4 : fEq (.str "NoNumber") (.str "NoNumber") = some (.bool true) := rfl
  have n3 : fIn false (.str "NoNumber") (.tuple [.str "NoText", .str "NoHistory", .str "NoBranch"]) = some (.bool false) := by kernel_rfl
  have n2 : fIn false (.str "NoNumber") (.tuple [.str "NoName", .str "NoPart"]) = some (.bool false) := by kernel_rfl
  generalize excDt ⟨"NoNumber", [("number", y)]⟩ = dx at *
  unfold w__law_field
  simp only [wSeq, wAsg, wName, wBin, wVar, wC, wTest, wIfS, wIf, wNext, wRet, wCons, wNil, wCB, wIxK, wIxO, wPutI, wCallB, wPar, wLst, wTup, wUn, wL, wLstL, wRetL, wOr, wAnd, wNot, wOwn, wExt, wApp, wRev, wTake, wGive, wND, slotOf, wFreeze, wCall, wCallL, wCallK, wCallLK, wCallX, wCallXK, wiRng1, wiList, wiTup, wFor, wLcN, wkCl, wkApp, wYes, wgTup, wgCons, wgNil, wLend, lendD, lendS, wipeD, wPre, wWipe, forgetD, wParN, wSetN, wInS, wAddS, Md.may, T.data, Option.map_some, List.map_cons, List.map_nil, List.getElem?_cons_zero, List.getElem?_cons_succ, List.set_cons_zero, List.set_cons_succ, Option.some.injEq, Sl.d.injEq, Sl.o.injEq, T.l.injEq, T.s.injEq, T.d.injEq, PyData.int.injEq, PyData.bool.injEq, exists_eq_left, exists_eq_left', and_assoc, exists_and_left, exists_eq', and_true, true_and, if_true, List.length_cons, List.length_nil, Option.bind_some, List.cons_append, List.nil_append, List.append_nil, f1, f2, wNotV, PyData.tuple.injEq, PyData.list.injEq, PyData.str.injEq, List.cons.injEq, exists_eq_right_right, exists_eq_right, wgStar, wgLst, wSl, woNone, woSome, wOrV, wAndV, wChain, wDrop, wDisp, wDispG, wVals, lookD, xf, e0, e1, e2, e3, e4, n3, n2, Bool.false_eq_true, if_false]
  repeat (first | exact hP | refine ⟨by decide, ?_⟩)
theorem field_NoHistory {y : PyData} {P : PyData → Prop} (hP : P y) : w__law_field (endsP P) [some (.d (excDt ⟨"NoHistory", [("at", y)]⟩)), some (.d (.str "NoHistory"))] := by
  have xf : fXf ["NoHistory", "NoBranch"] "at" (excDt ⟨"NoHistory", [("at", y)]⟩) = some y := rfl
  have e0 : fEq (.str "NoHistory") (.str "NoBase") = some (.bool false) := rfl
  have e1 : fEq (.str "NoHistory") (.str "NoCell") = some (.bool false) := rfl
  have e2 : fEq (.str "NoHistory") (.str "NoDepth") = some (.bool false) := rfl
  have e3 : fEq (.str "NoHistory") (.str "NoText") = some (.bool false) := rfl
  have e4 : fEq (.str "NoHistory") (.str "NoNumber") = some (.bool false) := rfl
  have n3 : fIn false (.str "NoHistory") (.tuple [.str "NoText", .str "NoHistory", .str "NoBranch"]) = some (.bool true) := by kernel_rfl
  have n2 : fIn false (.str "NoHistory") (.tuple [.str "NoName", .str "NoPart"]) = some (.bool false) := by kernel_rfl
  generalize excDt ⟨"NoHistory", [("at", y)]⟩ = dx at *
  unfold w__law_field
  simp only [wSeq, wAsg, wName, wBin, wVar, wC, wTest, wIfS, wIf, wNext, wRet, wCons, wNil, wCB, wIxK, wIxO, wPutI, wCallB, wPar, wLst, wTup, wUn, wL, wLstL, wRetL, wOr, wAnd, wNot, wOwn, wExt, wApp, wRev, wTake, wGive, wND, slotOf, wFreeze, wCall, wCallL, wCallK, wCallLK, wCallX, wCallXK, wiRng1, wiList, wiTup, wFor, wLcN, wkCl, wkApp, wYes, wgTup, wgCons, wgNil, wLend, lendD, lendS, wipeD, wPre, wWipe, forgetD, wParN, wSetN, wInS, wAddS, Md.may, T.data, Option.map_some, List.map_cons, List.map_nil, List.getElem?_cons_zero, List.getElem?_cons_succ, List.set_cons_zero, List.set_cons_succ, Option.some.injEq, Sl.d.injEq, Sl.o.injEq, T.l.injEq, T.s.injEq, T.d.injEq, PyData.int.injEq, PyData.bool.injEq, exists_eq_left, exists_eq_left', and_assoc, exists_and_left, exists_eq', and_true, true_and, if_true, List.length_cons, List.length_nil, Option.bind_some, List.cons_append, List.nil_append, List.append_nil, f1, f2, wNotV, PyData.tuple.injEq, PyData.list.injEq, PyData.str.injEq, List.cons.injEq, exists_eq_right_right, exists_eq_right, wgStar, wgLst, wSl, woNone, woSome, wOrV, wAndV, wChain, wDrop, wDisp, wDispG, wVals, lookD, xf, e0, e1, e2, e3, e4, n3, n2, Bool.false_eq_true, if_false]
  repeat (first | exact hP | refine ⟨by decide, ?_⟩)
theorem field_NoRun {y : PyData} {P : PyData → Prop} (hP : P y) : w__law_field (endsP P) [some (.d (excDt ⟨"NoRun", [("run", y)]⟩)), some (.d (.str "NoRun"))] := by
  have xf : fXf ["NoRun", "NoAnswer", "NotAsked", "Over"] "run" (excDt ⟨"NoRun", [("run", y)]⟩) = some y := rfl
  have e0 : fEq (.str "NoRun") (.str "NoBase") = some (.bool false) := rfl
  have e1 : fEq (.str "NoRun") (.str "NoCell") = some (.bool false) := rfl
  have e2 : fEq (.str "NoRun") (.str "NoDepth") = some (.bool false) := rfl
  have e3 : fEq (.str "NoRun") (.str "NoText") = some (.bool false) := rfl
  have e4 : fEq (.str "NoRun") (.str "NoNumber") = some (.bool false) := rfl
  have n3 : fIn false (.str "NoRun") (.tuple [.str "NoText", .str "NoHistory", .str "NoBranch"]) = some (.bool false) := by kernel_rfl
  have n2 : fIn false (.str "NoRun") (.tuple [.str "NoName", .str "NoPart"]) = some (.bool false) := by kernel_rfl
  generalize excDt ⟨"NoRun", [("run", y)]⟩ = dx at *
  unfold w__law_field
  simp only [wSeq, wAsg, wName, wBin, wVar, wC, wTest, wIfS, wIf, wNext, wRet, wCons, wNil, wCB, wIxK, wIxO, wPutI, wCallB, wPar, wLst, wTup, wUn, wL, wLstL, wRetL, wOr, wAnd, wNot, wOwn, wExt, wApp, wRev, wTake, wGive, wND, slotOf, wFreeze, wCall, wCallL, wCallK, wCallLK, wCallX, wCallXK, wiRng1, wiList, wiTup, wFor, wLcN, wkCl, wkApp, wYes, wgTup, wgCons, wgNil, wLend, lendD, lendS, wipeD, wPre, wWipe, forgetD, wParN, wSetN, wInS, wAddS, Md.may, T.data, Option.map_some, List.map_cons, List.map_nil, List.getElem?_cons_zero, List.getElem?_cons_succ, List.set_cons_zero, List.set_cons_succ, Option.some.injEq, Sl.d.injEq, Sl.o.injEq, T.l.injEq, T.s.injEq, T.d.injEq, PyData.int.injEq, PyData.bool.injEq, exists_eq_left, exists_eq_left', and_assoc, exists_and_left, exists_eq', and_true, true_and, if_true, List.length_cons, List.length_nil, Option.bind_some, List.cons_append, List.nil_append, List.append_nil, f1, f2, wNotV, PyData.tuple.injEq, PyData.list.injEq, PyData.str.injEq, List.cons.injEq, exists_eq_right_right, exists_eq_right, wgStar, wgLst, wSl, woNone, woSome, wOrV, wAndV, wChain, wDrop, wDisp, wDispG, wVals, lookD, xf, e0, e1, e2, e3, e4, n3, n2, Bool.false_eq_true, if_false]
  repeat (first | exact hP | refine ⟨by decide, ?_⟩)
theorem field_NoBranch {y : PyData} {P : PyData → Prop} (hP : P y) : w__law_field (endsP P) [some (.d (excDt ⟨"NoBranch", [("at", y)]⟩)), some (.d (.str "NoBranch"))] := by
  have xf : fXf ["NoHistory", "NoBranch"] "at" (excDt ⟨"NoBranch", [("at", y)]⟩) = some y := rfl
  have e0 : fEq (.str "NoBranch") (.str "NoBase") = some (.bool false) := rfl
  have e1 : fEq (.str "NoBranch") (.str "NoCell") = some (.bool false) := rfl
  have e2 : fEq (.str "NoBranch") (.str "NoDepth") = some (.bool false) := rfl
  have e3 : fEq (.str "NoBranch") (.str "NoText") = some (.bool false) := rfl
  have e4 : fEq (.str "NoBranch") (.str "NoNumber") = some (.bool false) := rfl
  have n3 : fIn false (.str "NoBranch") (.tuple [.str "NoText", .str "NoHistory", .str "NoBranch"]) = some (.bool true) := by kernel_rfl
  have n2 : fIn false (.str "NoBranch") (.tuple [.str "NoName", .str "NoPart"]) = some (.bool false) := by kernel_rfl
  generalize excDt ⟨"NoBranch", [("at", y)]⟩ = dx at *
  unfold w__law_field
  simp only [wSeq, wAsg, wName, wBin, wVar, wC, wTest, wIfS, wIf, wNext, wRet, wCons, wNil, wCB, wIxK, wIxO, wPutI, wCallB, wPar, wLst, wTup, wUn, wL, wLstL, wRetL, wOr, wAnd, wNot, wOwn, wExt, wApp, wRev, wTake, wGive, wND, slotOf, wFreeze, wCall, wCallL, wCallK, wCallLK, wCallX, wCallXK, wiRng1, wiList, wiTup, wFor, wLcN, wkCl, wkApp, wYes, wgTup, wgCons, wgNil, wLend, lendD, lendS, wipeD, wPre, wWipe, forgetD, wParN, wSetN, wInS, wAddS, Md.may, T.data, Option.map_some, List.map_cons, List.map_nil, List.getElem?_cons_zero, List.getElem?_cons_succ, List.set_cons_zero, List.set_cons_succ, Option.some.injEq, Sl.d.injEq, Sl.o.injEq, T.l.injEq, T.s.injEq, T.d.injEq, PyData.int.injEq, PyData.bool.injEq, exists_eq_left, exists_eq_left', and_assoc, exists_and_left, exists_eq', and_true, true_and, if_true, List.length_cons, List.length_nil, Option.bind_some, List.cons_append, List.nil_append, List.append_nil, f1, f2, wNotV, PyData.tuple.injEq, PyData.list.injEq, PyData.str.injEq, List.cons.injEq, exists_eq_right_right, exists_eq_right, wgStar, wgLst, wSl, woNone, woSome, wOrV, wAndV, wChain, wDrop, wDisp, wDispG, wVals, lookD, xf, e0, e1, e2, e3, e4, n3, n2, Bool.false_eq_true, if_false]
  repeat (first | exact hP | refine ⟨by decide, ?_⟩)
theorem field_NoCell {y : PyData} {P : PyData → Prop} (hP : P y) : w__law_field (endsP P) [some (.d (excDt ⟨"NoCell", [("cell", y)]⟩)), some (.d (.str "NoCell"))] := by
  have xf : fXf ["NoCell"] "cell" (excDt ⟨"NoCell", [("cell", y)]⟩) = some y := rfl
  have e0 : fEq (.str "NoCell") (.str "NoBase") = some (.bool false) := rfl
  have e1 : fEq (.str "NoCell") (.str "NoCell") = some (.bool true) := rfl
  have e2 : fEq (.str "NoCell") (.str "NoDepth") = some (.bool false) := rfl
  have e3 : fEq (.str "NoCell") (.str "NoText") = some (.bool false) := rfl
  have e4 : fEq (.str "NoCell") (.str "NoNumber") = some (.bool false) := rfl
  have n3 : fIn false (.str "NoCell") (.tuple [.str "NoText", .str "NoHistory", .str "NoBranch"]) = some (.bool false) := by kernel_rfl
  have n2 : fIn false (.str "NoCell") (.tuple [.str "NoName", .str "NoPart"]) = some (.bool false) := by kernel_rfl
  generalize excDt ⟨"NoCell", [("cell", y)]⟩ = dx at *
  unfold w__law_field
  simp only [wSeq, wAsg, wName, wBin, wVar, wC, wTest, wIfS, wIf, wNext, wRet, wCons, wNil, wCB, wIxK, wIxO, wPutI, wCallB, wPar, wLst, wTup, wUn, wL, wLstL, wRetL, wOr, wAnd, wNot, wOwn, wExt, wApp, wRev, wTake, wGive, wND, slotOf, wFreeze, wCall, wCallL, wCallK, wCallLK, wCallX, wCallXK, wiRng1, wiList, wiTup, wFor, wLcN, wkCl, wkApp, wYes, wgTup, wgCons, wgNil, wLend, lendD, lendS, wipeD, wPre, wWipe, forgetD, wParN, wSetN, wInS, wAddS, Md.may, T.data, Option.map_some, List.map_cons, List.map_nil, List.getElem?_cons_zero, List.getElem?_cons_succ, List.set_cons_zero, List.set_cons_succ, Option.some.injEq, Sl.d.injEq, Sl.o.injEq, T.l.injEq, T.s.injEq, T.d.injEq, PyData.int.injEq, PyData.bool.injEq, exists_eq_left, exists_eq_left', and_assoc, exists_and_left, exists_eq', and_true, true_and, if_true, List.length_cons, List.length_nil, Option.bind_some, List.cons_append, List.nil_append, List.append_nil, f1, f2, wNotV, PyData.tuple.injEq, PyData.list.injEq, PyData.str.injEq, List.cons.injEq, exists_eq_right_right, exists_eq_right, wgStar, wgLst, wSl, woNone, woSome, wOrV, wAndV, wChain, wDrop, wDisp, wDispG, wVals, lookD, xf, e0, e1, e2, e3, e4, n3, n2, Bool.false_eq_true, if_false]
  repeat (first | exact hP | refine ⟨by decide, ?_⟩)
theorem field_NoDepth {y : PyData} {P : PyData → Prop} (hP : P y) : w__law_field (endsP P) [some (.d (excDt ⟨"NoDepth", [("depth", y)]⟩)), some (.d (.str "NoDepth"))] := by
  have xf : fXf ["NoDepth"] "depth" (excDt ⟨"NoDepth", [("depth", y)]⟩) = some y := rfl
  have e0 : fEq (.str "NoDepth") (.str "NoBase") = some (.bool false) := rfl
  have e1 : fEq (.str "NoDepth") (.str "NoCell") = some (.bool false) := rfl
  have e2 : fEq (.str "NoDepth") (.str "NoDepth") = some (.bool true) := rfl
  have e3 : fEq (.str "NoDepth") (.str "NoText") = some (.bool false) := rfl
  have e4 : fEq (.str "NoDepth") (.str "NoNumber") = some (.bool false) := rfl
  have n3 : fIn false (.str "NoDepth") (.tuple [.str "NoText", .str "NoHistory", .str "NoBranch"]) = some (.bool false) := by kernel_rfl
  have n2 : fIn false (.str "NoDepth") (.tuple [.str "NoName", .str "NoPart"]) = some (.bool false) := by kernel_rfl
  generalize excDt ⟨"NoDepth", [("depth", y)]⟩ = dx at *
  unfold w__law_field
  simp only [wSeq, wAsg, wName, wBin, wVar, wC, wTest, wIfS, wIf, wNext, wRet, wCons, wNil, wCB, wIxK, wIxO, wPutI, wCallB, wPar, wLst, wTup, wUn, wL, wLstL, wRetL, wOr, wAnd, wNot, wOwn, wExt, wApp, wRev, wTake, wGive, wND, slotOf, wFreeze, wCall, wCallL, wCallK, wCallLK, wCallX, wCallXK, wiRng1, wiList, wiTup, wFor, wLcN, wkCl, wkApp, wYes, wgTup, wgCons, wgNil, wLend, lendD, lendS, wipeD, wPre, wWipe, forgetD, wParN, wSetN, wInS, wAddS, Md.may, T.data, Option.map_some, List.map_cons, List.map_nil, List.getElem?_cons_zero, List.getElem?_cons_succ, List.set_cons_zero, List.set_cons_succ, Option.some.injEq, Sl.d.injEq, Sl.o.injEq, T.l.injEq, T.s.injEq, T.d.injEq, PyData.int.injEq, PyData.bool.injEq, exists_eq_left, exists_eq_left', and_assoc, exists_and_left, exists_eq', and_true, true_and, if_true, List.length_cons, List.length_nil, Option.bind_some, List.cons_append, List.nil_append, List.append_nil, f1, f2, wNotV, PyData.tuple.injEq, PyData.list.injEq, PyData.str.injEq, List.cons.injEq, exists_eq_right_right, exists_eq_right, wgStar, wgLst, wSl, woNone, woSome, wOrV, wAndV, wChain, wDrop, wDisp, wDispG, wVals, lookD, xf, e0, e1, e2, e3, e4, n3, n2, Bool.false_eq_true, if_false]
  repeat (first | exact hP | refine ⟨by decide, ?_⟩)
theorem field_Over {y : PyData} {P : PyData → Prop} (hP : P y) : w__law_field (endsP P) [some (.d (excDt ⟨"Over", [("run", y)]⟩)), some (.d (.str "Over"))] := by
  have xf : fXf ["NoRun", "NoAnswer", "NotAsked", "Over"] "run" (excDt ⟨"Over", [("run", y)]⟩) = some y := rfl
  have e0 : fEq (.str "Over") (.str "NoBase") = some (.bool false) := rfl
  have e1 : fEq (.str "Over") (.str "NoCell") = some (.bool false) := rfl
  have e2 : fEq (.str "Over") (.str "NoDepth") = some (.bool false) := rfl
  have e3 : fEq (.str "Over") (.str "NoText") = some (.bool false) := rfl
  have e4 : fEq (.str "Over") (.str "NoNumber") = some (.bool false) := rfl
  have n3 : fIn false (.str "Over") (.tuple [.str "NoText", .str "NoHistory", .str "NoBranch"]) = some (.bool false) := by kernel_rfl
  have n2 : fIn false (.str "Over") (.tuple [.str "NoName", .str "NoPart"]) = some (.bool false) := by kernel_rfl
  generalize excDt ⟨"Over", [("run", y)]⟩ = dx at *
  unfold w__law_field
  simp only [wSeq, wAsg, wName, wBin, wVar, wC, wTest, wIfS, wIf, wNext, wRet, wCons, wNil, wCB, wIxK, wIxO, wPutI, wCallB, wPar, wLst, wTup, wUn, wL, wLstL, wRetL, wOr, wAnd, wNot, wOwn, wExt, wApp, wRev, wTake, wGive, wND, slotOf, wFreeze, wCall, wCallL, wCallK, wCallLK, wCallX, wCallXK, wiRng1, wiList, wiTup, wFor, wLcN, wkCl, wkApp, wYes, wgTup, wgCons, wgNil, wLend, lendD, lendS, wipeD, wPre, wWipe, forgetD, wParN, wSetN, wInS, wAddS, Md.may, T.data, Option.map_some, List.map_cons, List.map_nil, List.getElem?_cons_zero, List.getElem?_cons_succ, List.set_cons_zero, List.set_cons_succ, Option.some.injEq, Sl.d.injEq, Sl.o.injEq, T.l.injEq, T.s.injEq, T.d.injEq, PyData.int.injEq, PyData.bool.injEq, exists_eq_left, exists_eq_left', and_assoc, exists_and_left, exists_eq', and_true, true_and, if_true, List.length_cons, List.length_nil, Option.bind_some, List.cons_append, List.nil_append, List.append_nil, f1, f2, wNotV, PyData.tuple.injEq, PyData.list.injEq, PyData.str.injEq, List.cons.injEq, exists_eq_right_right, exists_eq_right, wgStar, wgLst, wSl, woNone, woSome, wOrV, wAndV, wChain, wDrop, wDisp, wDispG, wVals, lookD, xf, e0, e1, e2, e3, e4, n3, n2, Bool.false_eq_true, if_false]
  repeat (first | exact hP | refine ⟨by decide, ?_⟩)
theorem field_NoAnswer {y : PyData} {P : PyData → Prop} (hP : P y) : w__law_field (endsP P) [some (.d (excDt ⟨"NoAnswer", [("run", y)]⟩)), some (.d (.str "NoAnswer"))] := by
  have xf : fXf ["NoRun", "NoAnswer", "NotAsked", "Over"] "run" (excDt ⟨"NoAnswer", [("run", y)]⟩) = some y := rfl
  have e0 : fEq (.str "NoAnswer") (.str "NoBase") = some (.bool false) := rfl
  have e1 : fEq (.str "NoAnswer") (.str "NoCell") = some (.bool false) := rfl
  have e2 : fEq (.str "NoAnswer") (.str "NoDepth") = some (.bool false) := rfl
  have e3 : fEq (.str "NoAnswer") (.str "NoText") = some (.bool false) := rfl
  have e4 : fEq (.str "NoAnswer") (.str "NoNumber") = some (.bool false) := rfl
  have n3 : fIn false (.str "NoAnswer") (.tuple [.str "NoText", .str "NoHistory", .str "NoBranch"]) = some (.bool false) := by kernel_rfl
  have n2 : fIn false (.str "NoAnswer") (.tuple [.str "NoName", .str "NoPart"]) = some (.bool false) := by kernel_rfl
  generalize excDt ⟨"NoAnswer", [("run", y)]⟩ = dx at *
  unfold w__law_field
  simp only [wSeq, wAsg, wName, wBin, wVar, wC, wTest, wIfS, wIf, wNext, wRet, wCons, wNil, wCB, wIxK, wIxO, wPutI, wCallB, wPar, wLst, wTup, wUn, wL, wLstL, wRetL, wOr, wAnd, wNot, wOwn, wExt, wApp, wRev, wTake, wGive, wND, slotOf, wFreeze, wCall, wCallL, wCallK, wCallLK, wCallX, wCallXK, wiRng1, wiList, wiTup, wFor, wLcN, wkCl, wkApp, wYes, wgTup, wgCons, wgNil, wLend, lendD, lendS, wipeD, wPre, wWipe, forgetD, wParN, wSetN, wInS, wAddS, Md.may, T.data, Option.map_some, List.map_cons, List.map_nil, List.getElem?_cons_zero, List.getElem?_cons_succ, List.set_cons_zero, List.set_cons_succ, Option.some.injEq, Sl.d.injEq, Sl.o.injEq, T.l.injEq, T.s.injEq, T.d.injEq, PyData.int.injEq, PyData.bool.injEq, exists_eq_left, exists_eq_left', and_assoc, exists_and_left, exists_eq', and_true, true_and, if_true, List.length_cons, List.length_nil, Option.bind_some, List.cons_append, List.nil_append, List.append_nil, f1, f2, wNotV, PyData.tuple.injEq, PyData.list.injEq, PyData.str.injEq, List.cons.injEq, exists_eq_right_right, exists_eq_right, wgStar, wgLst, wSl, woNone, woSome, wOrV, wAndV, wChain, wDrop, wDisp, wDispG, wVals, lookD, xf, e0, e1, e2, e3, e4, n3, n2, Bool.false_eq_true, if_false]
  repeat (first | exact hP | refine ⟨by decide, ?_⟩)
theorem field_NotAsked {y : PyData} {P : PyData → Prop} (hP : P y) : w__law_field (endsP P) [some (.d (excDt ⟨"NotAsked", [("run", y)]⟩)), some (.d (.str "NotAsked"))] := by
  have xf : fXf ["NoRun", "NoAnswer", "NotAsked", "Over"] "run" (excDt ⟨"NotAsked", [("run", y)]⟩) = some y := rfl
  have e0 : fEq (.str "NotAsked") (.str "NoBase") = some (.bool false) := rfl
  have e1 : fEq (.str "NotAsked") (.str "NoCell") = some (.bool false) := rfl
  have e2 : fEq (.str "NotAsked") (.str "NoDepth") = some (.bool false) := rfl
  have e3 : fEq (.str "NotAsked") (.str "NoText") = some (.bool false) := rfl
  have e4 : fEq (.str "NotAsked") (.str "NoNumber") = some (.bool false) := rfl
  have n3 : fIn false (.str "NotAsked") (.tuple [.str "NoText", .str "NoHistory", .str "NoBranch"]) = some (.bool false) := by kernel_rfl
  have n2 : fIn false (.str "NotAsked") (.tuple [.str "NoName", .str "NoPart"]) = some (.bool false) := by kernel_rfl
  generalize excDt ⟨"NotAsked", [("run", y)]⟩ = dx at *
  unfold w__law_field
  simp only [wSeq, wAsg, wName, wBin, wVar, wC, wTest, wIfS, wIf, wNext, wRet, wCons, wNil, wCB, wIxK, wIxO, wPutI, wCallB, wPar, wLst, wTup, wUn, wL, wLstL, wRetL, wOr, wAnd, wNot, wOwn, wExt, wApp, wRev, wTake, wGive, wND, slotOf, wFreeze, wCall, wCallL, wCallK, wCallLK, wCallX, wCallXK, wiRng1, wiList, wiTup, wFor, wLcN, wkCl, wkApp, wYes, wgTup, wgCons, wgNil, wLend, lendD, lendS, wipeD, wPre, wWipe, forgetD, wParN, wSetN, wInS, wAddS, Md.may, T.data, Option.map_some, List.map_cons, List.map_nil, List.getElem?_cons_zero, List.getElem?_cons_succ, List.set_cons_zero, List.set_cons_succ, Option.some.injEq, Sl.d.injEq, Sl.o.injEq, T.l.injEq, T.s.injEq, T.d.injEq, PyData.int.injEq, PyData.bool.injEq, exists_eq_left, exists_eq_left', and_assoc, exists_and_left, exists_eq', and_true, true_and, if_true, List.length_cons, List.length_nil, Option.bind_some, List.cons_append, List.nil_append, List.append_nil, f1, f2, wNotV, PyData.tuple.injEq, PyData.list.injEq, PyData.str.injEq, List.cons.injEq, exists_eq_right_right, exists_eq_right, wgStar, wgLst, wSl, woNone, woSome, wOrV, wAndV, wChain, wDrop, wDisp, wDispG, wVals, lookD, xf, e0, e1, e2, e3, e4, n3, n2, Bool.false_eq_true, if_false]
  repeat (first | exact hP | refine ⟨by decide, ?_⟩)
theorem wp__law_field (xs : List PyData) (P : PyData → Prop) (h : wf__law_field xs P) : w__law_field (endsP P) (startN 2 xs) := by
  obtain ⟨c, f, y, rfl, hc, hP⟩ := h
  show w__law_field (endsP P) [some (.d (excDt ⟨c, [(f, y)]⟩)), some (.d (.str c))]
  simp only [tbl, List.mem_cons, List.not_mem_nil, or_false, Prod.mk.injEq] at hc
  rcases hc with ⟨rfl, rfl⟩ | ⟨rfl, rfl⟩ | ⟨rfl, rfl⟩ | ⟨rfl, rfl⟩ | ⟨rfl, rfl⟩ | ⟨rfl, rfl⟩ | ⟨rfl, rfl⟩ | ⟨rfl, rfl⟩ | ⟨rfl, rfl⟩ | ⟨rfl, rfl⟩ | ⟨rfl, rfl⟩ | ⟨rfl, rfl⟩ | ⟨rfl, rfl⟩
  · exact field_NoBase hP
  · exact field_NoText hP
  · exact field_NoName hP
  · exact field_NoPart hP
  · exact field_NoNumber hP
  · exact field_NoHistory hP
  · exact field_NoRun hP
  · exact field_NoBranch hP
  · exact field_NoCell hP
  · exact field_NoDepth hP
  · exact field_Over hP
  · exact field_NoAnswer hP
  · exact field_NotAsked hP
theorem field_use {c f : Str} {y : PyData} {P : PyData → Prop} (hc : (c, f) ∈ tbl) (h : P y) : wf__law_field [excDt ⟨c, [(f, y)]⟩, .str c] P := ⟨c, f, y, rfl, hc, h⟩
end Pl
set_option Elab.async false
set_option linter.all false
set_option maxRecDepth 100000
set_option maxHeartbeats 0
set_option Elab.async false
set_option linter.all false
set_option maxRecDepth 100000
set_option maxHeartbeats 4000000
namespace Pl
open PySem PySem.Spec PyProof.Rows L2 Dat
/-! ### the law -/
def wf_law : WF := fun xs P => ∃ ns : List Int, xs = [scrD ns] ∧ ns.length ≤ 63 ∧ P (.bool true)
def b_law_for1 : WS := (wSeq (wIfS (wOr (wTest (wBin fNe (wCall wf__law_kinds [] (wCons (wVar 7) wNil)) (wVar 6))) (wTest (wBin fNe (wCall wf__law_kinds [] (wCons (wVar 8) wNil)) (wVar 6)))) (wRet (wC (.bool false))) wNext)
    (wIfS (wOr (wTest (wBin fNe (wCB (f1 fRepr) (wCons (wCall wf__law_field [] (wCons (wVar 7) (wCons (wVar 6) wNil))) wNil)) (wCB (f1 fRepr) (wCons (wVar 3) wNil)))) (wTest (wBin fNe (wCB (f1 fRepr) (wCons (wCall wf__law_field [] (wCons (wVar 8) (wCons (wVar 6) wNil))) wNil)) (wCB (f1 fRepr) (wCons (wVar 4) wNil))))) (wRet (wC (.bool false))) wNext))
def b_law_for2 : WS := (wSeq (wTake (wCallL wf__law_bag [] (wCons (wVar 0) (wCons (wVar 1) wNil))) 2)
    (wSeq (wPar 3 4 (wCons (wCallB 2 wf__law_any wNil) (wCons (wCallB 2 wf__law_any wNil) wNil)))
    (wSeq (wOwn (wCons (wTup (wCons (wC (.str "NoBase")) (wCons (wMkE "NoBase" "base" (wCons (wVar 3) wNil)) (wCons (wMkE "NoBase" "base" (wCons (wVar 4) wNil)) wNil)))) (wCons (wTup (wCons (wC (.str "NoText")) (wCons (wMkE "NoText" "row" (wCons (wVar 3) wNil)) (wCons (wMkE "NoText" "row" (wCons (wVar 4) wNil)) wNil)))) wNil)) 5)
    (wSeq (wTake (wAddO 5 (wLst (wCons (wTup (wCons (wC (.str "NoName")) (wCons (wMkE "NoName" "name" (wCons (wVar 3) wNil)) (wCons (wMkE "NoName" "name" (wCons (wVar 4) wNil)) wNil)))) (wCons (wTup (wCons (wC (.str "NoPart")) (wCons (wMkE "NoPart" "name" (wCons (wVar 3) wNil)) (wCons (wMkE "NoPart" "name" (wCons (wVar 4) wNil)) wNil)))) wNil)))) 5)
    (wSeq (wTake (wAddO 5 (wLst (wCons (wTup (wCons (wC (.str "NoNumber")) (wCons (wMkE "NoNumber" "number" (wCons (wVar 3) wNil)) (wCons (wMkE "NoNumber" "number" (wCons (wVar 4) wNil)) wNil)))) wNil))) 5)
    (wSeq (wTake (wAddO 5 (wLst (wCons (wTup (wCons (wC (.str "NoHistory")) (wCons (wMkE "NoHistory" "at" (wCons (wVar 3) wNil)) (wCons (wMkE "NoHistory" "at" (wCons (wVar 4) wNil)) wNil)))) (wCons (wTup (wCons (wC (.str "NoRun")) (wCons (wMkE "NoRun" "run" (wCons (wVar 3) wNil)) (wCons (wMkE "NoRun" "run" (wCons (wVar 4) wNil)) wNil)))) wNil)))) 5)
    (wSeq (wTake (wAddO 5 (wLst (wCons (wTup (wCons (wC (.str "NoBranch")) (wCons (wMkE "NoBranch" "at" (wCons (wVar 3) wNil)) (wCons (wMkE "NoBranch" "at" (wCons (wVar 4) wNil)) wNil)))) (wCons (wTup (wCons (wC (.str "NoCell")) (wCons (wMkE "NoCell" "cell" (wCons (wVar 3) wNil)) (wCons (wMkE "NoCell" "cell" (wCons (wVar 4) wNil)) wNil)))) wNil)))) 5)
    (wSeq (wTake (wAddO 5 (wLst (wCons (wTup (wCons (wC (.str "NoDepth")) (wCons (wMkE "NoDepth" "depth" (wCons (wVar 3) wNil)) (wCons (wMkE "NoDepth" "depth" (wCons (wVar 4) wNil)) wNil)))) (wCons (wTup (wCons (wC (.str "Over")) (wCons (wMkE "Over" "run" (wCons (wVar 3) wNil)) (wCons (wMkE "Over" "run" (wCons (wVar 4) wNil)) wNil)))) wNil)))) 5)
    (wSeq (wApp 5 (wTup (wCons (wC (.str "NoAnswer")) (wCons (wMkE "NoAnswer" "run" (wCons (wVar 3) wNil)) (wCons (wMkE "NoAnswer" "run" (wCons (wVar 4) wNil)) wNil)))))
    (wSeq (wApp 5 (wTup (wCons (wC (.str "NotAsked")) (wCons (wMkE "NotAsked" "run" (wCons (wVar 3) wNil)) (wCons (wMkE "NotAsked" "run" (wCons (wVar 4) wNil)) wNil)))))
    (wSeq (wFreeze 5 (wPre [1, 2, 7, 8, 9] (wFor (wiList (wVar 5)) (wgTup 3 (wgCons (wName 6) (wgCons (wName 7) (wgCons (wName 8) wgNil)))) (wWipe [1, 2, 7, 8, 9] b_law_for1))))
    (wSeq (wAsg (wLst (wCons (wTup (wCons (wC (.str "NoRows")) (wCons (wMkE0 "NoRows") wNil))) (wCons (wTup (wCons (wC (.str "NoStand")) (wCons (wMkE0 "NoStand") wNil))) (wCons (wTup (wCons (wC (.str "NoCommand")) (wCons (wMkE0 "NoCommand") wNil))) wNil)))) (wName 9))
    (wIfS (wTest (wBin fNe (wL (wLcN (wiList (wVar 9)) (wgTup 2 (wgCons (wName 6) (wgCons (wName 10) wgNil))) wYes (wkApp (wCall wf__law_kinds [] (wCons (wVar 10) wNil))) [6, 10])) (wL (wLcN (wiList (wVar 9)) (wgTup 2 (wgCons (wName 6) (wgCons (wName 10) wgNil))) wYes (wkApp (wVar 6)) [6, 10])))) (wRet (wC (.bool false))) wNext)))))))))))))
def w_law : WS := (wSeq (wPre [1, 2, 3, 4, 5, 7, 8, 9] (wFor (wiRng1 (wCons (wCB (fMax) (wCons (wC (.int 2)) (wCons (wCB (fMin) (wCons (wC (.int 6)) (wCons (wCB (f1 fLen) (wCons (wVar 0) wNil)) wNil))) wNil))) wNil)) (wName 1) (wWipe [1, 2, 3, 4, 5, 7, 8, 9] b_law_for2)))
    (wRet (wC (.bool true))))
theorem wl_law (xs : List PyData) (P : PyData → Prop) (h : wf_law xs P) : xs.length = 1 := by
  obtain ⟨_, rfl, _⟩ := h
  rfl
def pD (one other : PyData) (p : Str × Str) : PyData := .tuple [.str p.1, excDt ⟨p.1, [(p.2, one)]⟩, excDt ⟨p.1, [(p.2, other)]⟩]
theorem pair_for {scr one other pairs : PyData} {s1 s2 : Str} (h1 : fRepr one = some (.str s1)) (h2 : fRepr other = some (.str s2)) {E : DEnds} : ∀ (l : List (Str × Str)) (o6 : Option Sl), (∀ p ∈ l, p ∈ tbl) →
    (∀ o, E.nx [some (.d scr), none, none, some (.d one), some (.d other), some (.d pairs), o, none, none, none, none]) →
    forRec (wgTup 3 (wgCons (wName 6) (wgCons (wName 7) (wgCons (wName 8) wgNil)))) (wWipe [1, 2, 7, 8, 9] b_law_for1) E (l.map (pD one other)) [some (.d scr), none, none, some (.d one), some (.d other), some (.d pairs), o6, none, none, none, none]
  | [], o6, _, h => h o6
  | (c, f) :: l, o6, hm, h => by
    have hc := hm _ List.mem_cons_self
    have hk : c ∈ clsL := tbl_cls _ hc
    have ih := fun o => pair_for (scr := scr) (pairs := pairs) h1 h2 (E := E) l o (fun p hp => hm p (List.mem_cons_of_mem _ hp)) h
    rw [List.map_cons, forRec]
    generalize forRec (wgTup 3 (wgCons (wName 6) (wgCons (wName 7) (wgCons (wName 8) wgNil)))) (wWipe [1, 2, 7, 8, 9] b_law_for1) E (l.map (pD one other)) = L at ih ⊢
    unfold b_law_for1 pD
    simp only [wSeq, wAsg, wName, wBin, wVar, wC, wTest, wIfS, wIf, wNext, wRet, wCons, wNil, wCB, wIxK, wIxO, wPutI, wCallB, wPar, wLst, wTup, wUn, wL, wLstL, wRetL, wOr, wAnd, wNot, wOwn, wExt, wApp, wRev, wTake, wGive, wND, slotOf, wFreeze, wCall, wCallL, wCallK, wCallLK, wCallX, wCallXK, wiRng1, wiList, wiTup, wFor, wLcN, wkCl, wkApp, wYes, wgTup, wgCons, wgNil, wLend, lendD, lendS, wipeD, wPre, wWipe, forgetD, wParN, wSetN, wInS, wAddS, Md.may, T.data, Option.map_some, List.map_cons, List.map_nil, List.getElem?_cons_zero, List.getElem?_cons_succ, List.set_cons_zero, List.set_cons_succ, Option.some.injEq, Sl.d.injEq, Sl.o.injEq, T.l.injEq, T.s.injEq, T.d.injEq, PyData.int.injEq, PyData.bool.injEq, exists_eq_left, exists_eq_left', and_assoc, exists_and_left, exists_eq', and_true, true_and, if_true, List.length_cons, List.length_nil, Option.bind_some, List.cons_append, List.nil_append, List.append_nil, f1, f2, wNotV, PyData.tuple.injEq, PyData.list.injEq, PyData.str.injEq, List.cons.injEq, exists_eq_right_right, exists_eq_right, wgStar, wgLst, wSl, woNone, woSome, wOrV, wAndV, wChain, wDrop, wDisp, wDispG, wVals, lookD]
    refine kinds_use hk ?_
    simp only [fne_str, beq_self_eq_true, Bool.not_true, wSeq, wAsg, wName, wBin, wVar, wC, wTest, wIfS, wIf, wNext, wRet, wCons, wNil, wCB, wIxK, wIxO, wPutI, wCallB, wPar, wLst, wTup, wUn, wL, wLstL, wRetL, wOr, wAnd, wNot, wOwn, wExt, wApp, wRev, wTake, wGive, wND, slotOf, wFreeze, wCall, wCallL, wCallK, wCallLK, wCallX, wCallXK, wiRng1, wiList, wiTup, wFor, wLcN, wkCl, wkApp, wYes, wgTup, wgCons, wgNil, wLend, lendD, lendS, wipeD, wPre, wWipe, forgetD, wParN, wSetN, wInS, wAddS, Md.may, T.data, Option.map_some, List.map_cons, List.map_nil, List.getElem?_cons_zero, List.getElem?_cons_succ, List.set_cons_zero, List.set_cons_succ, Option.some.injEq, Sl.d.injEq, Sl.o.injEq, T.l.injEq, T.s.injEq, T.d.injEq, PyData.int.injEq, PyData.bool.injEq, exists_eq_left, exists_eq_left', and_assoc, exists_and_left, exists_eq', and_true, true_and, if_true, List.length_cons, List.length_nil, Option.bind_some, List.cons_append, List.nil_append, List.append_nil, f1, f2, wNotV, Bool.false_eq_true, if_false]
    refine kinds_use hk ?_
    simp only [fne_str, beq_self_eq_true, Bool.not_true, wSeq, wAsg, wName, wBin, wVar, wC, wTest, wIfS, wIf, wNext, wRet, wCons, wNil, wCB, wIxK, wIxO, wPutI, wCallB, wPar, wLst, wTup, wUn, wL, wLstL, wRetL, wOr, wAnd, wNot, wOwn, wExt, wApp, wRev, wTake, wGive, wND, slotOf, wFreeze, wCall, wCallL, wCallK, wCallLK, wCallX, wCallXK, wiRng1, wiList, wiTup, wFor, wLcN, wkCl, wkApp, wYes, wgTup, wgCons, wgNil, wLend, lendD, lendS, wipeD, wPre, wWipe, forgetD, wParN, wSetN, wInS, wAddS, Md.may, T.data, Option.map_some, List.map_cons, List.map_nil, List.getElem?_cons_zero, List.getElem?_cons_succ, List.set_cons_zero, List.set_cons_succ, Option.some.injEq, Sl.d.injEq, Sl.o.injEq, T.l.injEq, T.s.injEq, T.d.injEq, PyData.int.injEq, PyData.bool.injEq, exists_eq_left, exists_eq_left', and_assoc, exists_and_left, exists_eq', and_true, true_and, if_true, List.length_cons, List.length_nil, Option.bind_some, List.cons_append, List.nil_append, List.append_nil, f1, f2, wNotV, Bool.false_eq_true, if_false]
    refine field_use hc ?_
    simp only [h1, fne_str, beq_self_eq_true, Bool.not_true, wSeq, wAsg, wName, wBin, wVar, wC, wTest, wIfS, wIf, wNext, wRet, wCons, wNil, wCB, wIxK, wIxO, wPutI, wCallB, wPar, wLst, wTup, wUn, wL, wLstL, wRetL, wOr, wAnd, wNot, wOwn, wExt, wApp, wRev, wTake, wGive, wND, slotOf, wFreeze, wCall, wCallL, wCallK, wCallLK, wCallX, wCallXK, wiRng1, wiList, wiTup, wFor, wLcN, wkCl, wkApp, wYes, wgTup, wgCons, wgNil, wLend, lendD, lendS, wipeD, wPre, wWipe, forgetD, wParN, wSetN, wInS, wAddS, Md.may, T.data, Option.map_some, List.map_cons, List.map_nil, List.getElem?_cons_zero, List.getElem?_cons_succ, List.set_cons_zero, List.set_cons_succ, Option.some.injEq, Sl.d.injEq, Sl.o.injEq, T.l.injEq, T.s.injEq, T.d.injEq, PyData.int.injEq, PyData.bool.injEq, exists_eq_left, exists_eq_left', and_assoc, exists_and_left, exists_eq', and_true, true_and, if_true, List.length_cons, List.length_nil, Option.bind_some, List.cons_append, List.nil_append, List.append_nil, f1, f2, wNotV, Bool.false_eq_true, if_false]
    refine field_use hc ?_
    simp only [h2, fne_str, beq_self_eq_true, Bool.not_true, wSeq, wAsg, wName, wBin, wVar, wC, wTest, wIfS, wIf, wNext, wRet, wCons, wNil, wCB, wIxK, wIxO, wPutI, wCallB, wPar, wLst, wTup, wUn, wL, wLstL, wRetL, wOr, wAnd, wNot, wOwn, wExt, wApp, wRev, wTake, wGive, wND, slotOf, wFreeze, wCall, wCallL, wCallK, wCallLK, wCallX, wCallXK, wiRng1, wiList, wiTup, wFor, wLcN, wkCl, wkApp, wYes, wgTup, wgCons, wgNil, wLend, lendD, lendS, wipeD, wPre, wWipe, forgetD, wParN, wSetN, wInS, wAddS, Md.may, T.data, Option.map_some, List.map_cons, List.map_nil, List.getElem?_cons_zero, List.getElem?_cons_succ, List.set_cons_zero, List.set_cons_succ, Option.some.injEq, Sl.d.injEq, Sl.o.injEq, T.l.injEq, T.s.injEq, T.d.injEq, PyData.int.injEq, PyData.bool.injEq, exists_eq_left, exists_eq_left', and_assoc, exists_and_left, exists_eq', and_true, true_and, if_true, List.length_cons, List.length_nil, Option.bind_some, List.cons_append, List.nil_append, List.append_nil, f1, f2, wNotV, Bool.false_eq_true, if_false]
    exact ih _
theorem body_for {ns : List Int} {E : DEnds} : ∀ (l : List PyData), (∀ x ∈ l, ∃ i : Int, x = .int i ∧ 0 ≤ i ∧ i < 1000) →
    E.nx [some (.d (scrD ns)), none, none, none, none, none, none, none, none, none, none] →
    forRec (wName 1) (wWipe [1, 2, 3, 4, 5, 7, 8, 9] b_law_for2) E l [some (.d (scrD ns)), none, none, none, none, none, none, none, none, none, none]
  | [], _, h => h
  | x :: l, hx, h => by
    obtain ⟨i, rfl, i0, i1⟩ := hx x List.mem_cons_self
    have ih := body_for (E := E) (ns := ns) l (fun y hy => hx y (List.mem_cons_of_mem _ hy)) h
    rw [forRec]
    generalize forRec (wName 1) (wWipe [1, 2, 3, 4, 5, 7, 8, 9] b_law_for2) E l = L at ih ⊢
    unfold b_law_for2
    simp only [wSeq, wAsg, wName, wBin, wVar, wC, wTest, wIfS, wIf, wNext, wRet, wCons, wNil, wCB, wIxK, wIxO, wPutI, wCallB, wPar, wLst, wTup, wUn, wL, wLstL, wRetL, wOr, wAnd, wNot, wOwn, wExt, wApp, wRev, wTake, wGive, wND, slotOf, wFreeze, wCall, wCallL, wCallK, wCallLK, wCallX, wCallXK, wiRng1, wiList, wiTup, wFor, wLcN, wkCl, wkApp, wYes, wgTup, wgCons, wgNil, wLend, lendD, lendS, wipeD, wPre, wWipe, forgetD, wParN, wSetN, wInS, wAddS, Md.may, T.data, Option.map_some, List.map_cons, List.map_nil, List.getElem?_cons_zero, List.getElem?_cons_succ, List.set_cons_zero, List.set_cons_succ, Option.some.injEq, Sl.d.injEq, Sl.o.injEq, T.l.injEq, T.s.injEq, T.d.injEq, PyData.int.injEq, PyData.bool.injEq, exists_eq_left, exists_eq_left', and_assoc, exists_and_left, exists_eq', and_true, true_and, if_true, List.length_cons, List.length_nil, Option.bind_some, List.cons_append, List.nil_append, List.append_nil, f1, f2, wNotV]
    refine ⟨ns, i, rfl, i0, i1, fun t0 b0 => ?_⟩
    obtain ⟨a0, c0, d0, rfl, hrest⟩ := b0
    have b0 : Bag 0 (.l [.int a0, .int c0, .int d0]) := ⟨a0, c0, d0, rfl, hrest⟩
    simp only [wSeq, wAsg, wName, wBin, wVar, wC, wTest, wIfS, wIf, wNext, wRet, wCons, wNil, wCB, wIxK, wIxO, wPutI, wCallB, wPar, wLst, wTup, wUn, wL, wLstL, wRetL, wOr, wAnd, wNot, wOwn, wExt, wApp, wRev, wTake, wGive, wND, slotOf, wFreeze, wCall, wCallL, wCallK, wCallLK, wCallX, wCallXK, wiRng1, wiList, wiTup, wFor, wLcN, wkCl, wkApp, wYes, wgTup, wgCons, wgNil, wLend, lendD, lendS, wipeD, wPre, wWipe, forgetD, wParN, wSetN, wInS, wAddS, Md.may, T.data, Option.map_some, List.map_cons, List.map_nil, List.getElem?_cons_zero, List.getElem?_cons_succ, List.set_cons_zero, List.set_cons_succ, Option.some.injEq, Sl.d.injEq, Sl.o.injEq, T.l.injEq, T.s.injEq, T.d.injEq, PyData.int.injEq, PyData.bool.injEq, exists_eq_left, exists_eq_left', and_assoc, exists_and_left, exists_eq', and_true, true_and, if_true, List.length_cons, List.length_nil, Option.bind_some, List.cons_append, List.nil_append, List.append_nil, f1, f2, wNotV]
    refine any_use 0 b0 (by decide) fun one t1 h1 b1 => ?_
    refine any_use 1 b1 (by decide) fun other t2 h2 b2 => ?_
    obtain ⟨s1, r1⟩ := any_repr one h1
    obtain ⟨s2, r2⟩ := any_repr other h2
    simp only [wSeq, wAsg, wName, wBin, wVar, wC, wTest, wIfS, wIf, wNext, wRet, wCons, wNil, wCB, wIxK, wIxO, wPutI, wCallB, wPar, wLst, wTup, wUn, wL, wLstL, wRetL, wOr, wAnd, wNot, wOwn, wExt, wApp, wRev, wTake, wGive, wND, slotOf, wFreeze, wCall, wCallL, wCallK, wCallLK, wCallX, wCallXK, wiRng1, wiList, wiTup, wFor, wLcN, wkCl, wkApp, wYes, wgTup, wgCons, wgNil, wLend, lendD, lendS, wipeD, wPre, wWipe, forgetD, wParN, wSetN, wInS, wAddS, Md.may, T.data, Option.map_some, List.map_cons, List.map_nil, List.getElem?_cons_zero, List.getElem?_cons_succ, List.set_cons_zero, List.set_cons_succ, Option.some.injEq, Sl.d.injEq, Sl.o.injEq, T.l.injEq, T.s.injEq, T.d.injEq, PyData.int.injEq, PyData.bool.injEq, exists_eq_left, exists_eq_left', and_assoc, exists_and_left, exists_eq', and_true, true_and, if_true, List.length_cons, List.length_nil, Option.bind_some, List.cons_append, List.nil_append, List.append_nil, f1, f2, wNotV, PyData.tuple.injEq, PyData.list.injEq, PyData.str.injEq, List.cons.injEq, exists_eq_right_right, exists_eq_right, wgStar, wgLst, wSl, woNone, woSome, wOrV, wAndV, wChain, wDrop, wDisp, wDispG, wVals, lookD, wMkE, wAddO, exists_eq_left', PyData.list.injEq]
    repeat refine ⟨by decide, ?_⟩
    refine pair_for r1 r2 tbl none (fun p hp => hp) fun o => ?_
    simp only [wSeq, wAsg, wName, wBin, wVar, wC, wTest, wIfS, wIf, wNext, wRet, wCons, wNil, wCB, wIxK, wIxO, wPutI, wCallB, wPar, wLst, wTup, wUn, wL, wLstL, wRetL, wOr, wAnd, wNot, wOwn, wExt, wApp, wRev, wTake, wGive, wND, slotOf, wFreeze, wCall, wCallL, wCallK, wCallLK, wCallX, wCallXK, wiRng1, wiList, wiTup, wFor, wLcN, wkCl, wkApp, wYes, wgTup, wgCons, wgNil, wLend, lendD, lendS, wipeD, wPre, wWipe, forgetD, wParN, wSetN, wInS, wAddS, Md.may, T.data, Option.map_some, List.map_cons, List.map_nil, List.getElem?_cons_zero, List.getElem?_cons_succ, List.set_cons_zero, List.set_cons_succ, Option.some.injEq, Sl.d.injEq, Sl.o.injEq, T.l.injEq, T.s.injEq, T.d.injEq, PyData.int.injEq, PyData.bool.injEq, exists_eq_left, exists_eq_left', and_assoc, exists_and_left, exists_eq', and_true, true_and, if_true, List.length_cons, List.length_nil, Option.bind_some, List.cons_append, List.nil_append, List.append_nil, f1, f2, wNotV, PyData.tuple.injEq, PyData.list.injEq, PyData.str.injEq, List.cons.injEq, exists_eq_right_right, exists_eq_right, wgStar, wgLst, wSl, woNone, woSome, wOrV, wAndV, wChain, wDrop, wDisp, wDispG, wVals, lookD, wMkE0]
    repeat refine ⟨by decide, ?_⟩
    have nn : fNe (.list [.str "NoRows", .str "NoStand", .str "NoCommand"]) (.list [.str "NoRows", .str "NoStand", .str "NoCommand"]) = some (.bool false) := by kernel_rfl
    simp only [clRec, wSeq, wAsg, wName, wBin, wVar, wC, wTest, wIfS, wIf, wNext, wRet, wCons, wNil, wCB, wIxK, wIxO, wPutI, wCallB, wPar, wLst, wTup, wUn, wL, wLstL, wRetL, wOr, wAnd, wNot, wOwn, wExt, wApp, wRev, wTake, wGive, wND, slotOf, wFreeze, wCall, wCallL, wCallK, wCallLK, wCallX, wCallXK, wiRng1, wiList, wiTup, wFor, wLcN, wkCl, wkApp, wYes, wgTup, wgCons, wgNil, wLend, lendD, lendS, wipeD, wPre, wWipe, forgetD, wParN, wSetN, wInS, wAddS, Md.may, T.data, Option.map_some, List.map_cons, List.map_nil, List.getElem?_cons_zero, List.getElem?_cons_succ, List.set_cons_zero, List.set_cons_succ, Option.some.injEq, Sl.d.injEq, Sl.o.injEq, T.l.injEq, T.s.injEq, T.d.injEq, PyData.int.injEq, PyData.bool.injEq, exists_eq_left, exists_eq_left', and_assoc, exists_and_left, exists_eq', and_true, true_and, if_true, List.length_cons, List.length_nil, Option.bind_some, List.cons_append, List.nil_append, List.append_nil, f1, f2, wNotV, PyData.tuple.injEq, PyData.list.injEq, PyData.str.injEq, List.cons.injEq, exists_eq_right_right, exists_eq_right, wgStar, wgLst, wSl, woNone, woSome, wOrV, wAndV, wChain, wDrop, wDisp, wDispG, wVals, lookD]
    repeat (first | refine kinds_use (by decide +kernel) ?_ | refine ⟨by decide, ?_⟩)
    simp only [wSeq, wAsg, wName, wBin, wVar, wC, wTest, wIfS, wIf, wNext, wRet, wCons, wNil, wCB, wIxK, wIxO, wPutI, wCallB, wPar, wLst, wTup, wUn, wL, wLstL, wRetL, wOr, wAnd, wNot, wOwn, wExt, wApp, wRev, wTake, wGive, wND, slotOf, wFreeze, wCall, wCallL, wCallK, wCallLK, wCallX, wCallXK, wiRng1, wiList, wiTup, wFor, wLcN, wkCl, wkApp, wYes, wgTup, wgCons, wgNil, wLend, lendD, lendS, wipeD, wPre, wWipe, forgetD, wParN, wSetN, wInS, wAddS, Md.may, T.data, Option.map_some, List.map_cons, List.map_nil, List.getElem?_cons_zero, List.getElem?_cons_succ, List.set_cons_zero, List.set_cons_succ, Option.some.injEq, Sl.d.injEq, Sl.o.injEq, T.l.injEq, T.s.injEq, T.d.injEq, PyData.int.injEq, PyData.bool.injEq, exists_eq_left, exists_eq_left', and_assoc, exists_and_left, exists_eq', and_true, true_and, if_true, List.length_cons, List.length_nil, Option.bind_some, List.cons_append, List.nil_append, List.append_nil, f1, f2, wNotV, PyData.tuple.injEq, PyData.list.injEq, PyData.str.injEq, List.cons.injEq, exists_eq_right_right, exists_eq_right, wgStar, wgLst, wSl, woNone, woSome, wOrV, wAndV, wChain, wDrop, wDisp, wDispG, wVals, lookD, nn, Bool.false_eq_true, if_false]
    repeat (first | exact ih | refine ⟨by decide, ?_⟩)
theorem wp_law (xs : List PyData) (P : PyData → Prop) (h : wf_law xs P) : w_law (endsP P) (startN 11 xs) := by
  obtain ⟨ns, rfl, hn, hP⟩ := h
  show w_law (endsP P) [some (.d (scrD ns)), none, none, none, none, none, none, none, none, none, none]
  unfold w_law
  simp only [wSeq, wAsg, wName, wBin, wVar, wC, wTest, wIfS, wIf, wNext, wRet, wCons, wNil, wCB, wIxK, wIxO, wPutI, wCallB, wPar, wLst, wTup, wUn, wL, wLstL, wRetL, wOr, wAnd, wNot, wOwn, wExt, wApp, wRev, wTake, wGive, wND, slotOf, wFreeze, wCall, wCallL, wCallK, wCallLK, wCallX, wCallXK, wiRng1, wiList, wiTup, wFor, wLcN, wkCl, wkApp, wYes, wgTup, wgCons, wgNil, wLend, lendD, lendS, wipeD, wPre, wWipe, forgetD, wParN, wSetN, wInS, wAddS, Md.may, T.data, Option.map_some, List.map_cons, List.map_nil, List.getElem?_cons_zero, List.getElem?_cons_succ, List.set_cons_zero, List.set_cons_succ, Option.some.injEq, Sl.d.injEq, Sl.o.injEq, T.l.injEq, T.s.injEq, T.d.injEq, PyData.int.injEq, PyData.bool.injEq, exists_eq_left, exists_eq_left', and_assoc, exists_and_left, exists_eq', and_true, true_and, if_true, List.length_cons, List.length_nil, Option.bind_some, List.cons_append, List.nil_append, List.append_nil, f1, f2, wNotV, flen_scr, intF]
  refine ⟨_, rfl, ?_, ?_, ?_⟩
  · split <;> split <;> omega
  · split <;> split <;> omega
  · refine body_for _ (fun x hx => ?_) ?_
    · obtain ⟨j, hj⟩ := List.mem_iff_getElem?.mp hx
      obtain ⟨hj1, rfl⟩ := rangeD_get hj
      refine ⟨_, rfl, by omega, ?_⟩
      split at hj1 <;> split at hj1 <;> omega
    · simp only [wSeq, wAsg, wName, wBin, wVar, wC, wTest, wIfS, wIf, wNext, wRet, wCons, wNil, wCB, wIxK, wIxO, wPutI, wCallB, wPar, wLst, wTup, wUn, wL, wLstL, wRetL, wOr, wAnd, wNot, wOwn, wExt, wApp, wRev, wTake, wGive, wND, slotOf, wFreeze, wCall, wCallL, wCallK, wCallLK, wCallX, wCallXK, wiRng1, wiList, wiTup, wFor, wLcN, wkCl, wkApp, wYes, wgTup, wgCons, wgNil, wLend, lendD, lendS, wipeD, wPre, wWipe, forgetD, wParN, wSetN, wInS, wAddS, Md.may, T.data, Option.map_some, List.map_cons, List.map_nil, List.getElem?_cons_zero, List.getElem?_cons_succ, List.set_cons_zero, List.set_cons_succ, Option.some.injEq, Sl.d.injEq, Sl.o.injEq, T.l.injEq, T.s.injEq, T.d.injEq, PyData.int.injEq, PyData.bool.injEq, exists_eq_left, exists_eq_left', and_assoc, exists_and_left, exists_eq', and_true, true_and, if_true, List.length_cons, List.length_nil, Option.bind_some, List.cons_append, List.nil_append, List.append_nil, f1, f2, wNotV, PyData.tuple.injEq, PyData.list.injEq, PyData.str.injEq, List.cons.injEq, exists_eq_right_right, exists_eq_right, wgStar, wgLst, wSl, woNone, woSome, wOrV, wAndV, wChain, wDrop, wDisp, wDispG, wVals, lookD]
      exact hP
theorem wf_law_at (ns : List Int) (hl : ns.length ≤ 63) : wf_law [scrD ns] fun z => z = .bool true := ⟨ns, rfl, hl, rfl⟩
end Pl
namespace Lw
open PySem PySem.Spec PyProof.Rows L2 Dat Pl
def top (i : Nat) : Stmt := PySem.Challenge.pw_callsover_k22_errors_made.main.body.getD i (.Pass ⟨0, 0, 0, 0⟩)
structure Txt (K : PySem.W.Frag) (mg : Str → Option Value) : Prop where
  m__law_bag : mg "_law_bag" = some (.ref (He.fAd K ("_law_bag", none)))
  f__law_bag : ∃ fd, FunD K "_law_bag" "_law_bag" (defArgs (top 18)) (defBody (top 18)) (defScope (top 18)) [] [] (He.fAd K ("_law_bag", none)) fd
  m__law_take : mg "_law_take" = some (.ref (He.fAd K ("_law_take", none)))
  f__law_take : ∃ fd, FunD K "_law_take" "_law_take" (defArgs (top 19)) (defBody (top 19)) (defScope (top 19)) [] [] (He.fAd K ("_law_take", none)) fd
  m__law_any : mg "_law_any" = some (.ref (He.fAd K ("_law_any", none)))
  f__law_any : ∃ fd, FunD K "_law_any" "_law_any" (defArgs (top 20)) (defBody (top 20)) (defScope (top 20)) [] [] (He.fAd K ("_law_any", none)) fd
  m__law_kinds : mg "_law_kinds" = some (.ref (He.fAd K ("_law_kinds", none)))
  f__law_kinds : ∃ fd, FunD K "_law_kinds" "_law_kinds" (defArgs (top 21)) (defBody (top 21)) (defScope (top 21)) [] [] (He.fAd K ("_law_kinds", none)) fd
  m__law_field : mg "_law_field" = some (.ref (He.fAd K ("_law_field", none)))
  f__law_field : ∃ fd, FunD K "_law_field" "_law_field" (defArgs (top 22)) (defBody (top 22)) (defScope (top 22)) [] [] (He.fAd K ("_law_field", none)) fd
  m_law : mg "law" = some (.ref (He.fAd K ("law", none)))
  f_law : ∃ fd, FunD K "law" "law" (defArgs (top 23)) (defBody (top 23)) (defScope (top 23)) [] [] (He.fAd K ("law", none)) fd
  b_IndexError : mg "IndexError" = none
  b_KeyError : mg "KeyError" = none
  b_LookupError : mg "LookupError" = none
  b_RuntimeError : mg "RuntimeError" = none
  b_ValueError : mg "ValueError" = none
  b_abs : mg "abs" = none
  b_isinstance : mg "isinstance" = none
  b_len : mg "len" = none
  b_max : mg "max" = none
  b_min : mg "min" = none
  b_range : mg "range" = none
  b_repr : mg "repr" = none
  t_IndexError : TabC K (.type "IndexError") tb_IndexError
  t_KeyError : TabC K (.type "KeyError") tb_KeyError
  t_LookupError : TabC K (.type "LookupError") tb_LookupError
  t_NoAnswer : TabC K (.ref (He.ga K "NoAnswer")) tb_NoAnswer
  t_NoBase : TabC K (.ref (He.ga K "NoBase")) tb_NoBase
  t_NoBranch : TabC K (.ref (He.ga K "NoBranch")) tb_NoBranch
  t_NoCell : TabC K (.ref (He.ga K "NoCell")) tb_NoCell
  m_NoCommand : mg "NoCommand" = some (.ref (He.ga K "NoCommand"))
  t_NoCommand : TabC K (.ref (He.ga K "NoCommand")) tb_NoCommand
  t_NoDepth : TabC K (.ref (He.ga K "NoDepth")) tb_NoDepth
  t_NoHistory : TabC K (.ref (He.ga K "NoHistory")) tb_NoHistory
  t_NoName : TabC K (.ref (He.ga K "NoName")) tb_NoName
  t_NoNumber : TabC K (.ref (He.ga K "NoNumber")) tb_NoNumber
  t_NoPart : TabC K (.ref (He.ga K "NoPart")) tb_NoPart
  m_NoRows : mg "NoRows" = some (.ref (He.ga K "NoRows"))
  t_NoRows : TabC K (.ref (He.ga K "NoRows")) tb_NoRows
  t_NoRun : TabC K (.ref (He.ga K "NoRun")) tb_NoRun
  m_NoStand : mg "NoStand" = some (.ref (He.ga K "NoStand"))
  t_NoStand : TabC K (.ref (He.ga K "NoStand")) tb_NoStand
  t_NoText : TabC K (.ref (He.ga K "NoText")) tb_NoText
  t_NotAsked : TabC K (.ref (He.ga K "NotAsked")) tb_NotAsked
  t_Over : TabC K (.ref (He.ga K "Over")) tb_Over
  t_RuntimeError : TabC K (.type "RuntimeError") tb_RuntimeError
  t_ValueError : TabC K (.type "ValueError") tb_ValueError
  m_NoBase : mg "NoBase" = some (.ref (He.ga K "NoBase"))
  x_NoBase : XTV K "NoBase" "base"
  i_NoBase : ∃ fd, FunD K "__init__" "NoBase.__init__" (defArgs (inClass (top 1) 0)) (defBody (inClass (top 1) 0)) (defScope (inClass (top 1) 0)) [] [] (He.fAd K ("NoBase", some "__init__")) fd
  m_NoText : mg "NoText" = some (.ref (He.ga K "NoText"))
  x_NoText : XTV K "NoText" "row"
  i_NoText : ∃ fd, FunD K "__init__" "NoText.__init__" (defArgs (inClass (top 2) 0)) (defBody (inClass (top 2) 0)) (defScope (inClass (top 2) 0)) [] [] (He.fAd K ("NoText", some "__init__")) fd
  m_NoName : mg "NoName" = some (.ref (He.ga K "NoName"))
  x_NoName : XTV K "NoName" "name"
  i_NoName : ∃ fd, FunD K "__init__" "NoName.__init__" (defArgs (inClass (top 5) 0)) (defBody (inClass (top 5) 0)) (defScope (inClass (top 5) 0)) [] [] (He.fAd K ("NoName", some "__init__")) fd
  m_NoNumber : mg "NoNumber" = some (.ref (He.ga K "NoNumber"))
  x_NoNumber : XTV K "NoNumber" "number"
  i_NoNumber : ∃ fd, FunD K "__init__" "NoNumber.__init__" (defArgs (inClass (top 6) 0)) (defBody (inClass (top 6) 0)) (defScope (inClass (top 6) 0)) [] [] (He.fAd K ("NoNumber", some "__init__")) fd
  m_NoHistory : mg "NoHistory" = some (.ref (He.ga K "NoHistory"))
  x_NoHistory : XTV K "NoHistory" "at"
  i_NoHistory : ∃ fd, FunD K "__init__" "NoHistory.__init__" (defArgs (inClass (top 7) 0)) (defBody (inClass (top 7) 0)) (defScope (inClass (top 7) 0)) [] [] (He.fAd K ("NoHistory", some "__init__")) fd
  m_NoPart : mg "NoPart" = some (.ref (He.ga K "NoPart"))
  x_NoPart : XTK K "NoPart" "name"
  i_NoPart : ∃ fd, FunD K "__init__" "NoPart.__init__" (defArgs (inClass (top 9) 0)) (defBody (inClass (top 9) 0)) (defScope (inClass (top 9) 0)) [] [] (He.fAd K ("NoPart", some "__init__")) fd
  m_NoRun : mg "NoRun" = some (.ref (He.ga K "NoRun"))
  x_NoRun : XTK K "NoRun" "run"
  i_NoRun : ∃ fd, FunD K "__init__" "NoRun.__init__" (defArgs (inClass (top 10) 0)) (defBody (inClass (top 10) 0)) (defScope (inClass (top 10) 0)) [] [] (He.fAd K ("NoRun", some "__init__")) fd
  m_NoBranch : mg "NoBranch" = some (.ref (He.ga K "NoBranch"))
  x_NoBranch : XTI K "NoBranch" "at"
  i_NoBranch : ∃ fd, FunD K "__init__" "NoBranch.__init__" (defArgs (inClass (top 11) 0)) (defBody (inClass (top 11) 0)) (defScope (inClass (top 11) 0)) [] [] (He.fAd K ("NoBranch", some "__init__")) fd
  m_NoCell : mg "NoCell" = some (.ref (He.ga K "NoCell"))
  x_NoCell : XTI K "NoCell" "cell"
  i_NoCell : ∃ fd, FunD K "__init__" "NoCell.__init__" (defArgs (inClass (top 12) 0)) (defBody (inClass (top 12) 0)) (defScope (inClass (top 12) 0)) [] [] (He.fAd K ("NoCell", some "__init__")) fd
  m_NoDepth : mg "NoDepth" = some (.ref (He.ga K "NoDepth"))
  x_NoDepth : XTI K "NoDepth" "depth"
  i_NoDepth : ∃ fd, FunD K "__init__" "NoDepth.__init__" (defArgs (inClass (top 13) 0)) (defBody (inClass (top 13) 0)) (defScope (inClass (top 13) 0)) [] [] (He.fAd K ("NoDepth", some "__init__")) fd
  m_NoAnswer : mg "NoAnswer" = some (.ref (He.ga K "NoAnswer"))
  x_NoAnswer : XTL K "NoAnswer" "run"
  i_NoAnswer : ∃ fd, FunD K "__init__" "NoAnswer.__init__" (defArgs (inClass (top 14) 0)) (defBody (inClass (top 14) 0)) (defScope (inClass (top 14) 0)) [] [] (He.fAd K ("NoAnswer", some "__init__")) fd
  m_NotAsked : mg "NotAsked" = some (.ref (He.ga K "NotAsked"))
  x_NotAsked : XTR K "NotAsked" "run"
  i_NotAsked : ∃ fd, FunD K "__init__" "NotAsked.__init__" (defArgs (inClass (top 15) 0)) (defBody (inClass (top 15) 0)) (defScope (inClass (top 15) 0)) [] [] (He.fAd K ("NotAsked", some "__init__")) fd
  m_Over : mg "Over" = some (.ref (He.ga K "Over"))
  x_Over : XTR K "Over" "run"
  i_Over : ∃ fd, FunD K "__init__" "Over.__init__" (defArgs (inClass (top 16) 0)) (defBody (inClass (top 16) 0)) (defScope (inClass (top 16) 0)) [] [] (He.fAd K ("Over", some "__init__")) fd
  xb_NoRows : XB K "NoRows"
  xb_NoStand : XB K "NoStand"
  xb_NoCommand : XB K "NoCommand"
theorem sc_NoBase : FnScope ["self", "base"] ["self", "base"] (defScope (inClass (top 1) 0)) := ⟨rfl, rfl, rfl, by decide +kernel, rfl, by decide +kernel, by decide +kernel⟩
theorem mkk_NoBase {P : Program} {w : World} {K : PySem.W.Frag} {mg : Str → Option Value} {base : Heap} (T : Txt K mg) : Mk1K P w K mg base "NoBase" "base" "base" := by
  obtain ⟨fd, F⟩ := T.i_NoBase
  exact ⟨_, _, _, _, _, fd, ["self", "base"], T.x_NoBase.T, T.x_NoBase.iC, T.x_NoBase.tI, init_ok T.x_NoBase.T F sc_NoBase rfl (Or.inl rfl) (Or.inl rfl) (by decide) (by decide), kbn_of F fun _ _ _ _ _ _ us ws hl hw => match us, hl, ws, hw with | [_], _, [_], _ => rfl, T.m_NoBase⟩
theorem mk_NoBase {P : Program} {w : World} {K : PySem.W.Frag} {mg : Str → Option Value} {base : Heap} (T : Txt K mg) : Mk1 P w K mg base "NoBase" "base" := by
  obtain ⟨fd, F⟩ := T.i_NoBase
  exact ⟨_, _, _, _, _, fd, ["self", "base"], T.x_NoBase.T, T.x_NoBase.iC, T.x_NoBase.tI, init_ok T.x_NoBase.T F sc_NoBase rfl (Or.inl rfl) (Or.inl rfl) (by decide) (by decide), F.bindsN fun _ _ _ _ _ _ us hl => match us, hl with | [_, _], _ => rfl, T.m_NoBase⟩
theorem sc_NoText : FnScope ["self", "row"] ["self", "row"] (defScope (inClass (top 2) 0)) := ⟨rfl, rfl, rfl, by decide +kernel, rfl, by decide +kernel, by decide +kernel⟩
theorem mkk_NoText {P : Program} {w : World} {K : PySem.W.Frag} {mg : Str → Option Value} {base : Heap} (T : Txt K mg) : Mk1K P w K mg base "NoText" "row" "row" := by
  obtain ⟨fd, F⟩ := T.i_NoText
  exact ⟨_, _, _, _, _, fd, ["self", "row"], T.x_NoText.T, T.x_NoText.iC, T.x_NoText.tI, init_ok T.x_NoText.T F sc_NoText rfl (Or.inl rfl) (Or.inl rfl) (by decide) (by decide), kbn_of F fun _ _ _ _ _ _ us ws hl hw => match us, hl, ws, hw with | [_], _, [_], _ => rfl, T.m_NoText⟩
theorem mk_NoText {P : Program} {w : World} {K : PySem.W.Frag} {mg : Str → Option Value} {base : Heap} (T : Txt K mg) : Mk1 P w K mg base "NoText" "row" := by
  obtain ⟨fd, F⟩ := T.i_NoText
  exact ⟨_, _, _, _, _, fd, ["self", "row"], T.x_NoText.T, T.x_NoText.iC, T.x_NoText.tI, init_ok T.x_NoText.T F sc_NoText rfl (Or.inl rfl) (Or.inl rfl) (by decide) (by decide), F.bindsN fun _ _ _ _ _ _ us hl => match us, hl with | [_, _], _ => rfl, T.m_NoText⟩
theorem sc_NoName : FnScope ["self", "name"] ["self", "name"] (defScope (inClass (top 5) 0)) := ⟨rfl, rfl, rfl, by decide +kernel, rfl, by decide +kernel, by decide +kernel⟩
theorem mkk_NoName {P : Program} {w : World} {K : PySem.W.Frag} {mg : Str → Option Value} {base : Heap} (T : Txt K mg) : Mk1K P w K mg base "NoName" "name" "name" := by
  obtain ⟨fd, F⟩ := T.i_NoName
  exact ⟨_, _, _, _, _, fd, ["self", "name"], T.x_NoName.T, T.x_NoName.iC, T.x_NoName.tI, init_ok T.x_NoName.T F sc_NoName rfl (Or.inl rfl) (Or.inl rfl) (by decide) (by decide), kbn_of F fun _ _ _ _ _ _ us ws hl hw => match us, hl, ws, hw with | [_], _, [_], _ => rfl, T.m_NoName⟩
theorem mk_NoName {P : Program} {w : World} {K : PySem.W.Frag} {mg : Str → Option Value} {base : Heap} (T : Txt K mg) : Mk1 P w K mg base "NoName" "name" := by
  obtain ⟨fd, F⟩ := T.i_NoName
  exact ⟨_, _, _, _, _, fd, ["self", "name"], T.x_NoName.T, T.x_NoName.iC, T.x_NoName.tI, init_ok T.x_NoName.T F sc_NoName rfl (Or.inl rfl) (Or.inl rfl) (by decide) (by decide), F.bindsN fun _ _ _ _ _ _ us hl => match us, hl with | [_, _], _ => rfl, T.m_NoName⟩
theorem sc_NoNumber : FnScope ["self", "number"] ["self", "number"] (defScope (inClass (top 6) 0)) := ⟨rfl, rfl, rfl, by decide +kernel, rfl, by decide +kernel, by decide +kernel⟩
theorem mkk_NoNumber {P : Program} {w : World} {K : PySem.W.Frag} {mg : Str → Option Value} {base : Heap} (T : Txt K mg) : Mk1K P w K mg base "NoNumber" "number" "number" := by
  obtain ⟨fd, F⟩ := T.i_NoNumber
  exact ⟨_, _, _, _, _, fd, ["self", "number"], T.x_NoNumber.T, T.x_NoNumber.iC, T.x_NoNumber.tI, init_ok T.x_NoNumber.T F sc_NoNumber rfl (Or.inl rfl) (Or.inl rfl) (by decide) (by decide), kbn_of F fun _ _ _ _ _ _ us ws hl hw => match us, hl, ws, hw with | [_], _, [_], _ => rfl, T.m_NoNumber⟩
theorem mk_NoNumber {P : Program} {w : World} {K : PySem.W.Frag} {mg : Str → Option Value} {base : Heap} (T : Txt K mg) : Mk1 P w K mg base "NoNumber" "number" := by
  obtain ⟨fd, F⟩ := T.i_NoNumber
  exact ⟨_, _, _, _, _, fd, ["self", "number"], T.x_NoNumber.T, T.x_NoNumber.iC, T.x_NoNumber.tI, init_ok T.x_NoNumber.T F sc_NoNumber rfl (Or.inl rfl) (Or.inl rfl) (by decide) (by decide), F.bindsN fun _ _ _ _ _ _ us hl => match us, hl with | [_, _], _ => rfl, T.m_NoNumber⟩
theorem sc_NoHistory : FnScope ["self", "at"] ["self", "at"] (defScope (inClass (top 7) 0)) := ⟨rfl, rfl, rfl, by decide +kernel, rfl, by decide +kernel, by decide +kernel⟩
theorem mkk_NoHistory {P : Program} {w : World} {K : PySem.W.Frag} {mg : Str → Option Value} {base : Heap} (T : Txt K mg) : Mk1K P w K mg base "NoHistory" "at" "at" := by
  obtain ⟨fd, F⟩ := T.i_NoHistory
  exact ⟨_, _, _, _, _, fd, ["self", "at"], T.x_NoHistory.T, T.x_NoHistory.iC, T.x_NoHistory.tI, init_ok T.x_NoHistory.T F sc_NoHistory rfl (Or.inl rfl) (Or.inl rfl) (by decide) (by decide), kbn_of F fun _ _ _ _ _ _ us ws hl hw => match us, hl, ws, hw with | [_], _, [_], _ => rfl, T.m_NoHistory⟩
theorem mk_NoHistory {P : Program} {w : World} {K : PySem.W.Frag} {mg : Str → Option Value} {base : Heap} (T : Txt K mg) : Mk1 P w K mg base "NoHistory" "at" := by
  obtain ⟨fd, F⟩ := T.i_NoHistory
  exact ⟨_, _, _, _, _, fd, ["self", "at"], T.x_NoHistory.T, T.x_NoHistory.iC, T.x_NoHistory.tI, init_ok T.x_NoHistory.T F sc_NoHistory rfl (Or.inl rfl) (Or.inl rfl) (by decide) (by decide), F.bindsN fun _ _ _ _ _ _ us hl => match us, hl with | [_, _], _ => rfl, T.m_NoHistory⟩
theorem sc_NoPart : FnScope ["self", "name"] ["self", "name"] (defScope (inClass (top 9) 0)) := ⟨rfl, rfl, rfl, by decide +kernel, rfl, by decide +kernel, by decide +kernel⟩
theorem mkk_NoPart {P : Program} {w : World} {K : PySem.W.Frag} {mg : Str → Option Value} {base : Heap} (T : Txt K mg) : Mk1K P w K mg base "NoPart" "name" "name" := by
  obtain ⟨fd, F⟩ := T.i_NoPart
  exact ⟨_, _, _, _, _, fd, ["self", "name"], T.x_NoPart.T, T.x_NoPart.iC, T.x_NoPart.tI, init_ok T.x_NoPart.T F sc_NoPart rfl (Or.inl rfl) (Or.inl rfl) (by decide) (by decide), kbn_of F fun _ _ _ _ _ _ us ws hl hw => match us, hl, ws, hw with | [_], _, [_], _ => rfl, T.m_NoPart⟩
theorem mk_NoPart {P : Program} {w : World} {K : PySem.W.Frag} {mg : Str → Option Value} {base : Heap} (T : Txt K mg) : Mk1 P w K mg base "NoPart" "name" := by
  obtain ⟨fd, F⟩ := T.i_NoPart
  exact ⟨_, _, _, _, _, fd, ["self", "name"], T.x_NoPart.T, T.x_NoPart.iC, T.x_NoPart.tI, init_ok T.x_NoPart.T F sc_NoPart rfl (Or.inl rfl) (Or.inl rfl) (by decide) (by decide), F.bindsN fun _ _ _ _ _ _ us hl => match us, hl with | [_, _], _ => rfl, T.m_NoPart⟩
theorem sc_NoRun : FnScope ["self", "run"] ["self", "run"] (defScope (inClass (top 10) 0)) := ⟨rfl, rfl, rfl, by decide +kernel, rfl, by decide +kernel, by decide +kernel⟩
theorem mkk_NoRun {P : Program} {w : World} {K : PySem.W.Frag} {mg : Str → Option Value} {base : Heap} (T : Txt K mg) : Mk1K P w K mg base "NoRun" "run" "run" := by
  obtain ⟨fd, F⟩ := T.i_NoRun
  exact ⟨_, _, _, _, _, fd, ["self", "run"], T.x_NoRun.T, T.x_NoRun.iC, T.x_NoRun.tI, init_ok T.x_NoRun.T F sc_NoRun rfl (Or.inl rfl) (Or.inl rfl) (by decide) (by decide), kbn_of F fun _ _ _ _ _ _ us ws hl hw => match us, hl, ws, hw with | [_], _, [_], _ => rfl, T.m_NoRun⟩
theorem mk_NoRun {P : Program} {w : World} {K : PySem.W.Frag} {mg : Str → Option Value} {base : Heap} (T : Txt K mg) : Mk1 P w K mg base "NoRun" "run" := by
  obtain ⟨fd, F⟩ := T.i_NoRun
  exact ⟨_, _, _, _, _, fd, ["self", "run"], T.x_NoRun.T, T.x_NoRun.iC, T.x_NoRun.tI, init_ok T.x_NoRun.T F sc_NoRun rfl (Or.inl rfl) (Or.inl rfl) (by decide) (by decide), F.bindsN fun _ _ _ _ _ _ us hl => match us, hl with | [_, _], _ => rfl, T.m_NoRun⟩
theorem sc_NoBranch : FnScope ["self", "at"] ["self", "at"] (defScope (inClass (top 11) 0)) := ⟨rfl, rfl, rfl, by decide +kernel, rfl, by decide +kernel, by decide +kernel⟩
theorem mkk_NoBranch {P : Program} {w : World} {K : PySem.W.Frag} {mg : Str → Option Value} {base : Heap} (T : Txt K mg) : Mk1K P w K mg base "NoBranch" "at" "at" := by
  obtain ⟨fd, F⟩ := T.i_NoBranch
  exact ⟨_, _, _, _, _, fd, ["self", "at"], T.x_NoBranch.T, T.x_NoBranch.iC, T.x_NoBranch.tI, init_ok T.x_NoBranch.T F sc_NoBranch rfl (Or.inl rfl) (Or.inl rfl) (by decide) (by decide), kbn_of F fun _ _ _ _ _ _ us ws hl hw => match us, hl, ws, hw with | [_], _, [_], _ => rfl, T.m_NoBranch⟩
theorem mk_NoBranch {P : Program} {w : World} {K : PySem.W.Frag} {mg : Str → Option Value} {base : Heap} (T : Txt K mg) : Mk1 P w K mg base "NoBranch" "at" := by
  obtain ⟨fd, F⟩ := T.i_NoBranch
  exact ⟨_, _, _, _, _, fd, ["self", "at"], T.x_NoBranch.T, T.x_NoBranch.iC, T.x_NoBranch.tI, init_ok T.x_NoBranch.T F sc_NoBranch rfl (Or.inl rfl) (Or.inl rfl) (by decide) (by decide), F.bindsN fun _ _ _ _ _ _ us hl => match us, hl with | [_, _], _ => rfl, T.m_NoBranch⟩
theorem sc_NoCell : FnScope ["self", "cell"] ["self", "cell"] (defScope (inClass (top 12) 0)) := ⟨rfl, rfl, rfl, by decide +kernel, rfl, by decide +kernel, by decide +kernel⟩
theorem mkk_NoCell {P : Program} {w : World} {K : PySem.W.Frag} {mg : Str → Option Value} {base : Heap} (T : Txt K mg) : Mk1K P w K mg base "NoCell" "cell" "cell" := by
  obtain ⟨fd, F⟩ := T.i_NoCell
  exact ⟨_, _, _, _, _, fd, ["self", "cell"], T.x_NoCell.T, T.x_NoCell.iC, T.x_NoCell.tI, init_ok T.x_NoCell.T F sc_NoCell rfl (Or.inl rfl) (Or.inl rfl) (by decide) (by decide), kbn_of F fun _ _ _ _ _ _ us ws hl hw => match us, hl, ws, hw with | [_], _, [_], _ => rfl, T.m_NoCell⟩
theorem mk_NoCell {P : Program} {w : World} {K : PySem.W.Frag} {mg : Str → Option Value} {base : Heap} (T : Txt K mg) : Mk1 P w K mg base "NoCell" "cell" := by
  obtain ⟨fd, F⟩ := T.i_NoCell
  exact ⟨_, _, _, _, _, fd, ["self", "cell"], T.x_NoCell.T, T.x_NoCell.iC, T.x_NoCell.tI, init_ok T.x_NoCell.T F sc_NoCell rfl (Or.inl rfl) (Or.inl rfl) (by decide) (by decide), F.bindsN fun _ _ _ _ _ _ us hl => match us, hl with | [_, _], _ => rfl, T.m_NoCell⟩
theorem sc_NoDepth : FnScope ["self", "depth"] ["self", "depth"] (defScope (inClass (top 13) 0)) := ⟨rfl, rfl, rfl, by decide +kernel, rfl, by decide +kernel, by decide +kernel⟩
theorem mkk_NoDepth {P : Program} {w : World} {K : PySem.W.Frag} {mg : Str → Option Value} {base : Heap} (T : Txt K mg) : Mk1K P w K mg base "NoDepth" "depth" "depth" := by
  obtain ⟨fd, F⟩ := T.i_NoDepth
  exact ⟨_, _, _, _, _, fd, ["self", "depth"], T.x_NoDepth.T, T.x_NoDepth.iC, T.x_NoDepth.tI, init_ok T.x_NoDepth.T F sc_NoDepth rfl (Or.inl rfl) (Or.inl rfl) (by decide) (by decide), kbn_of F fun _ _ _ _ _ _ us ws hl hw => match us, hl, ws, hw with | [_], _, [_], _ => rfl, T.m_NoDepth⟩
theorem mk_NoDepth {P : Program} {w : World} {K : PySem.W.Frag} {mg : Str → Option Value} {base : Heap} (T : Txt K mg) : Mk1 P w K mg base "NoDepth" "depth" := by
  obtain ⟨fd, F⟩ := T.i_NoDepth
  exact ⟨_, _, _, _, _, fd, ["self", "depth"], T.x_NoDepth.T, T.x_NoDepth.iC, T.x_NoDepth.tI, init_ok T.x_NoDepth.T F sc_NoDepth rfl (Or.inl rfl) (Or.inl rfl) (by decide) (by decide), F.bindsN fun _ _ _ _ _ _ us hl => match us, hl with | [_, _], _ => rfl, T.m_NoDepth⟩
theorem sc_NoAnswer : FnScope ["self", "run"] ["self", "run"] (defScope (inClass (top 14) 0)) := ⟨rfl, rfl, rfl, by decide +kernel, rfl, by decide +kernel, by decide +kernel⟩
theorem mkk_NoAnswer {P : Program} {w : World} {K : PySem.W.Frag} {mg : Str → Option Value} {base : Heap} (T : Txt K mg) : Mk1K P w K mg base "NoAnswer" "run" "run" := by
  obtain ⟨fd, F⟩ := T.i_NoAnswer
  exact ⟨_, _, _, _, _, fd, ["self", "run"], T.x_NoAnswer.T, T.x_NoAnswer.iC, T.x_NoAnswer.tI, init_ok T.x_NoAnswer.T F sc_NoAnswer rfl (Or.inl rfl) (Or.inl rfl) (by decide) (by decide), kbn_of F fun _ _ _ _ _ _ us ws hl hw => match us, hl, ws, hw with | [_], _, [_], _ => rfl, T.m_NoAnswer⟩
theorem mk_NoAnswer {P : Program} {w : World} {K : PySem.W.Frag} {mg : Str → Option Value} {base : Heap} (T : Txt K mg) : Mk1 P w K mg base "NoAnswer" "run" := by
  obtain ⟨fd, F⟩ := T.i_NoAnswer
  exact ⟨_, _, _, _, _, fd, ["self", "run"], T.x_NoAnswer.T, T.x_NoAnswer.iC, T.x_NoAnswer.tI, init_ok T.x_NoAnswer.T F sc_NoAnswer rfl (Or.inl rfl) (Or.inl rfl) (by decide) (by decide), F.bindsN fun _ _ _ _ _ _ us hl => match us, hl with | [_, _], _ => rfl, T.m_NoAnswer⟩
theorem sc_NotAsked : FnScope ["self", "run"] ["self", "run"] (defScope (inClass (top 15) 0)) := ⟨rfl, rfl, rfl, by decide +kernel, rfl, by decide +kernel, by decide +kernel⟩
theorem mkk_NotAsked {P : Program} {w : World} {K : PySem.W.Frag} {mg : Str → Option Value} {base : Heap} (T : Txt K mg) : Mk1K P w K mg base "NotAsked" "run" "run" := by
  obtain ⟨fd, F⟩ := T.i_NotAsked
  exact ⟨_, _, _, _, _, fd, ["self", "run"], T.x_NotAsked.T, T.x_NotAsked.iC, T.x_NotAsked.tI, init_ok T.x_NotAsked.T F sc_NotAsked rfl (Or.inl rfl) (Or.inl rfl) (by decide) (by decide), kbn_of F fun _ _ _ _ _ _ us ws hl hw => match us, hl, ws, hw with | [_], _, [_], _ => rfl, T.m_NotAsked⟩
theorem mk_NotAsked {P : Program} {w : World} {K : PySem.W.Frag} {mg : Str → Option Value} {base : Heap} (T : Txt K mg) : Mk1 P w K mg base "NotAsked" "run" := by
  obtain ⟨fd, F⟩ := T.i_NotAsked
  exact ⟨_, _, _, _, _, fd, ["self", "run"], T.x_NotAsked.T, T.x_NotAsked.iC, T.x_NotAsked.tI, init_ok T.x_NotAsked.T F sc_NotAsked rfl (Or.inl rfl) (Or.inl rfl) (by decide) (by decide), F.bindsN fun _ _ _ _ _ _ us hl => match us, hl with | [_, _], _ => rfl, T.m_NotAsked⟩
theorem sc_Over : FnScope ["self", "run"] ["self", "run"] (defScope (inClass (top 16) 0)) := ⟨rfl, rfl, rfl, by decide +kernel, rfl, by decide +kernel, by decide +kernel⟩
theorem mkk_Over {P : Program} {w : World} {K : PySem.W.Frag} {mg : Str → Option Value} {base : Heap} (T : Txt K mg) : Mk1K P w K mg base "Over" "run" "run" := by
  obtain ⟨fd, F⟩ := T.i_Over
  exact ⟨_, _, _, _, _, fd, ["self", "run"], T.x_Over.T, T.x_Over.iC, T.x_Over.tI, init_ok T.x_Over.T F sc_Over rfl (Or.inl rfl) (Or.inl rfl) (by decide) (by decide), kbn_of F fun _ _ _ _ _ _ us ws hl hw => match us, hl, ws, hw with | [_], _, [_], _ => rfl, T.m_Over⟩
theorem mk_Over {P : Program} {w : World} {K : PySem.W.Frag} {mg : Str → Option Value} {base : Heap} (T : Txt K mg) : Mk1 P w K mg base "Over" "run" := by
  obtain ⟨fd, F⟩ := T.i_Over
  exact ⟨_, _, _, _, _, fd, ["self", "run"], T.x_Over.T, T.x_Over.iC, T.x_Over.tI, init_ok T.x_Over.T F sc_Over rfl (Or.inl rfl) (Or.inl rfl) (by decide) (by decide), F.bindsN fun _ _ _ _ _ _ us hl => match us, hl with | [_, _], _ => rfl, T.m_Over⟩
theorem sc__law_bag : FnScope ["_law_script", "_law_spot", "_law_great", "_law_digits"] ["_law_script", "_law_spot"] (defScope (top 18)) := ⟨rfl, rfl, rfl, by decide +kernel, rfl, by decide +kernel, by decide +kernel⟩
theorem ok__law_bag {P : Program} {w : World} {K : PySem.W.Frag} {mg : Str → Option Value} {base : Heap} (T : Txt K mg) : ∃ f fd, Cal P w K mg base "_law_bag" 1 ["_law_script", "_law_spot"] (wfL wf__law_bag) f fd := by
  obtain ⟨fd, F⟩ := T.f__law_bag
  exact ⟨_, fd, okL (k := 0) (wd := fun _ => w__law_bag) F sc__law_bag wl__law_bag (fun cdv A outer s H E Z hg hr tk hz => ⟨_,
    (b_cons (s_set (i := 2) sc__law_bag.nd (d_if (c_cmp op_lt l_lt (dv 1) (d_cb call_len l_len (by rfl) T.b_len (by decide +kernel) (a_cons (dv 0) a_nil)) (nomark _)) (d_ix (dv 0) (dv 1)) d_int))
      (b_cons (s_set (i := 3) sc__law_bag.nd (d_if (c_cmp op_ge l_ge (d_cb call_abs l_abs (by rfl) T.b_abs (by decide +kernel) (a_cons (dv 2) a_nil)) (d_op op_pow l_pow d_int d_int) (nomark _)) (d_cb call_abs l_abs (by rfl) T.b_abs (by decide +kernel) (a_cons (dv 2) a_nil)) d_int))
      (b_one (s_retL (l_lst (a_cons (dv 3) (a_cons (d_op op_mod l_mod (d_op op_mul l_mul (d_op op_addA l_add (d_op op_addA l_add (d_op op_mod l_mod (dv 2) d_int) (d_op op_mul l_mul d_int (dv 1))) d_int) d_int) d_int) (a_cons d_int a_nil))))))))⟩) wp__law_bag, T.m__law_bag, F.kp, F.bindsN fun _ _ _ _ _ _ us hl => match us, hl with | [_, _], _ => rfl⟩
theorem sc__law_take : FnScope ["_law_bag_here", "_law_many", "_law_mixed", "_law_digit"] ["_law_bag_here", "_law_many"] (defScope (top 19)) := ⟨rfl, rfl, rfl, by decide +kernel, rfl, by decide +kernel, by decide +kernel⟩
theorem ok__law_take {P : Program} {w : World} {K : PySem.W.Frag} {mg : Str → Option Value} {base : Heap} (T : Txt K mg) : ∃ f fd, Cal P w K mg base "_law_take" 1 ["_law_bag_here", "_law_many"] (wfB wf__law_take) f fd := by
  obtain ⟨fd, F⟩ := T.f__law_take
  exact ⟨_, fd, okB (k := 0) (wd := fun _ => w__law_take) F sc__law_take wl__law_take (fun cdv A outer s H E Z hg hr tk hz => ⟨_,
    (b_cons (s_if (c_cmp op_gt l_gt (d_ixO 0 d_int) d_int (nomark _)) (b_cons (s_set (i := 3) sc__law_take.nd (d_op op_mod l_mod (d_ixO 0 d_int) (dv 1)))
      (b_cons (s_putI 0 (d_op op_fdiv l_div (d_ixO 0 d_int) (dv 1)))
      (b_one (s_ret (dv 3))))) b_nil)
      (b_cons (s_putI 0 (d_op op_addA l_add (d_ixO 0 d_int) d_int))
      (b_cons (s_set (i := 2) sc__law_take.nd (d_op op_mod l_mod (d_op op_pow l_pow (d_op op_addA l_add (d_ixO 0 d_int) (d_op op_mul l_mul d_int (d_ixO 0 d_int))) d_int) d_int))
      (b_cons (s_set (i := 2) sc__law_take.nd (d_op op_mod l_mod (d_op op_pow l_pow (d_op op_addA l_add (dv 2) (d_op op_mul l_mul d_int (d_ixO 0 d_int))) d_int) d_int))
      (b_one (s_ret (d_op op_mod l_mod (d_op op_fdiv l_div (dv 2) d_int) (dv 1))))))))⟩) wp__law_take, T.m__law_take, F.kp, F.bindsN fun _ _ _ _ _ _ us hl => match us, hl with | [_, _], _ => rfl⟩
theorem sc__law_any : FnScope ["_law_bag_here", "_law_some"] ["_law_bag_here"] (defScope (top 20)) := ⟨rfl, rfl, rfl, by decide +kernel, rfl, by decide +kernel, by decide +kernel⟩
theorem ok__law_any {P : Program} {w : World} {K : PySem.W.Frag} {mg : Str → Option Value} {base : Heap} (T : Txt K mg) : ∃ f fd, Cal P w K mg base "_law_any" 2 ["_law_bag_here"] (wfB wf__law_any) f fd := by
  obtain ⟨f__law_take, fd__law_take, C__law_take⟩ := ok__law_take (P := P) (w := w) (base := base) T
  obtain ⟨fd, F⟩ := T.f__law_any
  exact ⟨_, fd, okB (k := 1) (wd := fun _ => w__law_any) F sc__law_any wl__law_any (fun cdv A outer s H E Z hg hr tk hz => ⟨_,
    (b_cons (s_set (i := 1) sc__law_any.nd (d_lst (a_cons d_non (a_cons d_bl (a_cons d_bl (a_cons d_int (a_cons d_int (a_cons d_int (a_cons (d_neg d_int) (a_cons d_int (a_cons (d_op op_pow l_pow d_int d_int) (a_cons d_str (a_cons d_str (a_cons d_str (a_cons d_str (a_cons d_str (a_cons d_str (a_cons d_str (a_cons (d_lst a_nil) (a_cons (d_tup a_nil) (a_cons (d_tup (a_cons d_str a_nil)) (a_cons (d_lst (a_cons d_str a_nil)) a_nil))))))))))))))))))))))
      (b_one (s_ret (d_ix (d_op op_addA l_add (dv 1) (d_lst (a_cons (d_tup (a_cons d_int (a_cons d_int (a_cons d_int a_nil)))) (a_cons (d_tup (a_cons d_bl (a_cons d_int (a_cons d_int a_nil)))) (a_cons (d_tup (a_cons (d_tup (a_cons d_str (a_cons d_int a_nil))) a_nil)) (a_cons (d_tup (a_cons d_str (a_cons d_int (a_cons d_str a_nil)))) (a_cons d_str (a_cons (d_tup (a_cons d_str (a_cons d_int a_nil))) a_nil)))))))) (C__law_take.b 0 hg hr (a_cons d_int a_nil))))))⟩) wp__law_any, T.m__law_any, F.kp, F.bindsN fun _ _ _ _ _ _ us hl => match us, hl with | [_], _ => rfl⟩
theorem sc__law_kinds : FnScope ["_law_e", "_law_kinds_here", "_law_names", "_law_above", "_law_spot", "_law_due", "_law_sign"] ["_law_e"] (defScope (top 21)) := ⟨rfl, rfl, rfl, by decide +kernel, rfl, by decide +kernel, by decide +kernel⟩
theorem ok__law_kinds {P : Program} {w : World} {K : PySem.W.Frag} {mg : Str → Option Value} {base : Heap} (T : Txt K mg) : ∃ f fd, Cal P w K mg base "_law_kinds" 1 ["_law_e"] (wfP wf__law_kinds) f fd := by
  obtain ⟨fd, F⟩ := T.f__law_kinds
  exact ⟨_, fd, okP (k := 0) (wd := fun _ => w__law_kinds) F sc__law_kinds wl__law_kinds (fun cdv A outer s H E Z hg hr tk hz => ⟨_,
    (b_cons (s_set (i := 1) sc__law_kinds.nd (d_lst (a_cons (d_isC T.t_NoBase T.b_isinstance T.m_NoBase (dv 0)) (a_cons (d_isC T.t_NoText T.b_isinstance T.m_NoText (dv 0)) (a_cons (d_isC T.t_NoRows T.b_isinstance T.m_NoRows (dv 0)) (a_cons (d_isC T.t_NoStand T.b_isinstance T.m_NoStand (dv 0)) a_nil))))))
      (b_cons (s_set (i := 1) sc__law_kinds.nd (d_op op_addA l_add (dv 1) (d_lst (a_cons (d_isC T.t_NoName T.b_isinstance T.m_NoName (dv 0)) (a_cons (d_isC T.t_NoNumber T.b_isinstance T.m_NoNumber (dv 0)) (a_cons (d_isC T.t_NoHistory T.b_isinstance T.m_NoHistory (dv 0)) a_nil))))))
      (b_cons (s_set (i := 1) sc__law_kinds.nd (d_op op_addA l_add (dv 1) (d_lst (a_cons (d_isC T.t_NoCommand T.b_isinstance T.m_NoCommand (dv 0)) (a_cons (d_isC T.t_NoPart T.b_isinstance T.m_NoPart (dv 0)) (a_cons (d_isC T.t_NoRun T.b_isinstance T.m_NoRun (dv 0)) a_nil))))))
      (b_cons (s_set (i := 1) sc__law_kinds.nd (d_op op_addA l_add (dv 1) (d_lst (a_cons (d_isC T.t_NoBranch T.b_isinstance T.m_NoBranch (dv 0)) (a_cons (d_isC T.t_NoCell T.b_isinstance T.m_NoCell (dv 0)) (a_cons (d_isC T.t_NoDepth T.b_isinstance T.m_NoDepth (dv 0)) a_nil))))))
      (b_cons (s_set (i := 1) sc__law_kinds.nd (d_op op_addA l_add (dv 1) (d_lst (a_cons (d_isC T.t_NoAnswer T.b_isinstance T.m_NoAnswer (dv 0)) (a_cons (d_isC T.t_NotAsked T.b_isinstance T.m_NotAsked (dv 0)) (a_cons (d_isC T.t_Over T.b_isinstance T.m_Over (dv 0)) a_nil))))))
      (b_cons (s_set (i := 2) sc__law_kinds.nd (d_lst (a_cons d_str (a_cons d_str (a_cons d_str (a_cons d_str (a_cons d_str (a_cons d_str (a_cons d_str (a_cons d_str (a_cons d_str a_nil)))))))))))
      (b_cons (s_set (i := 2) sc__law_kinds.nd (d_op op_addA l_add (dv 2) (d_lst (a_cons d_str (a_cons d_str (a_cons d_str (a_cons d_str (a_cons d_str (a_cons d_str (a_cons d_str a_nil))))))))))
      (b_cons (s_set (i := 3) sc__law_kinds.nd (d_lst (a_cons (d_isB T.t_ValueError T.b_isinstance T.b_ValueError (by decide +kernel) (dv 0)) (a_cons (d_isB T.t_KeyError T.b_isinstance T.b_KeyError (by decide +kernel) (dv 0)) (a_cons (d_isB T.t_IndexError T.b_isinstance T.b_IndexError (by decide +kernel) (dv 0)) a_nil)))))
      (b_cons (s_set (i := 3) sc__law_kinds.nd (d_op op_addA l_add (dv 3) (d_lst (a_cons (d_isB T.t_LookupError T.b_isinstance T.b_LookupError (by decide +kernel) (dv 0)) (a_cons (d_isB T.t_RuntimeError T.b_isinstance T.b_RuntimeError (by decide +kernel) (dv 0)) a_nil)))))
      (b_cons (s_if (c_cmp (op_neA hr.units) l_ne (d_cnt (r65 hr) (dv 1) d_bl) d_int (nomark _)) (b_one (s_ret d_str)) b_nil)
      (b_cons (s_set (i := 4) sc__law_kinds.nd (d_idx (r65 hr) (dv 1) d_bl))
      (b_cons (s_set (i := 5) sc__law_kinds.nd (d_op op_addA l_add (d_op op_addA l_add (d_op op_addA l_add (d_op op_rep l_rep (d_lst (a_cons d_str a_nil)) d_int) (d_op op_rep l_rep (d_lst (a_cons d_str a_nil)) d_int)) (d_op op_rep l_rep (d_lst (a_cons d_str a_nil)) d_int)) (d_lst (a_cons d_str (a_cons d_str (a_cons d_str a_nil))))))
      (b_one (s_ret (d_if (c_cmp (op_eqA hr.units) l_eq (dv 3) (PNd.ee (d_comp [("_law_sign", 6)] sc__law_kinds.nd (blkOk_by (N := ["_law_e", "_law_kinds_here", "_law_names", "_law_above", "_law_spot", "_law_due", "_law_sign"]) (sc := defScope (top 21)) (by decide +kernel)) turns1 (i_str (d_ix (dv 5) (dv 4))) (fun _ _ _ _ _ => (q_name (i := 6) sc__law_kinds.nd)) (fun _ _ _ _ _ => ts_nil) (fun _ _ _ _ _ => (kt_last (d_cmp (op_eqA hr.units) l_eq (dv 6) d_str (nomark _)))))) (nomark _)) (d_ix (dv 2) (dv 4)) d_str)))))))))))))))⟩) wp__law_kinds, T.m__law_kinds, F.kp, F.bindsN fun _ _ _ _ _ _ us hl => match us, hl with | [_], _ => rfl⟩
theorem sc__law_field : FnScope ["_law_e", "_law_word"] ["_law_e", "_law_word"] (defScope (top 22)) := ⟨rfl, rfl, rfl, by decide +kernel, rfl, by decide +kernel, by decide +kernel⟩
theorem ok__law_field {P : Program} {w : World} {K : PySem.W.Frag} {mg : Str → Option Value} {base : Heap} (T : Txt K mg) : ∃ f fd, Cal P w K mg base "_law_field" 1 ["_law_e", "_law_word"] (wfP wf__law_field) f fd := by
  obtain ⟨fd, F⟩ := T.f__law_field
  exact ⟨_, fd, okP (k := 0) (wd := fun _ => w__law_field) F sc__law_field wl__law_field (fun cdv A outer s H E Z hg hr tk hz => ⟨_,
    (b_cons (s_if (c_cmp (op_eqA hr.units) l_eq (dv 1) d_str (nomark _)) (b_one (s_ret (d_xf (cs := ["NoBase"]) (fun c hc => by
          simp only [List.mem_cons, List.mem_nil_iff, or_false] at hc
          subst hc; first | exact ⟨T.x_NoBase.xf, T.x_NoBase.no⟩) (dv 0)))) b_nil)
      (b_cons (s_if (c_cmp (op_eqA hr.units) l_eq (dv 1) d_str (nomark _)) (b_one (s_ret (d_xf (cs := ["NoCell"]) (fun c hc => by
          simp only [List.mem_cons, List.mem_nil_iff, or_false] at hc
          subst hc; first | exact ⟨T.x_NoCell.xf, T.x_NoCell.no⟩) (dv 0)))) b_nil)
      (b_cons (s_if (c_cmp (op_eqA hr.units) l_eq (dv 1) d_str (nomark _)) (b_one (s_ret (d_xf (cs := ["NoDepth"]) (fun c hc => by
          simp only [List.mem_cons, List.mem_nil_iff, or_false] at hc
          subst hc; first | exact ⟨T.x_NoDepth.xf, T.x_NoDepth.no⟩) (dv 0)))) b_nil)
      (b_cons (s_if (c_cmp op_in_seq (l_in false) (dv 1) (d_tup (a_cons d_str (a_cons d_str (a_cons d_str a_nil)))) (by rfl)) (b_one (s_ret (d_if (c_cmp (op_eqA hr.units) l_eq (dv 1) d_str (nomark _)) (d_xf (cs := ["NoText"]) (fun c hc => by
          simp only [List.mem_cons, List.mem_nil_iff, or_false] at hc
          subst hc; first | exact ⟨T.x_NoText.xf, T.x_NoText.no⟩) (dv 0)) (d_xf (cs := ["NoHistory", "NoBranch"]) (fun c hc => by
          simp only [List.mem_cons, List.mem_nil_iff, or_false] at hc
          rcases hc with rfl | rfl <;> first | exact ⟨T.x_NoHistory.xf, T.x_NoHistory.no⟩ | exact ⟨T.x_NoBranch.xf, T.x_NoBranch.no⟩) (dv 0))))) b_nil)
      (b_cons (s_if (c_cmp op_in_seq (l_in false) (dv 1) (d_tup (a_cons d_str (a_cons d_str a_nil))) (by rfl)) (b_one (s_ret (d_xf (cs := ["NoName", "NoPart"]) (fun c hc => by
          simp only [List.mem_cons, List.mem_nil_iff, or_false] at hc
          rcases hc with rfl | rfl <;> first | exact ⟨T.x_NoName.xf, T.x_NoName.no⟩ | exact ⟨T.x_NoPart.xf, T.x_NoPart.no⟩) (dv 0)))) b_nil)
      (b_one (s_ret (d_if (c_cmp (op_eqA hr.units) l_eq (dv 1) d_str (nomark _)) (d_xf (cs := ["NoNumber"]) (fun c hc => by
          simp only [List.mem_cons, List.mem_nil_iff, or_false] at hc
          subst hc; first | exact ⟨T.x_NoNumber.xf, T.x_NoNumber.no⟩) (dv 0)) (d_xf (cs := ["NoRun", "NoAnswer", "NotAsked", "Over"]) (fun c hc => by
          simp only [List.mem_cons, List.mem_nil_iff, or_false] at hc
          rcases hc with rfl | rfl | rfl | rfl <;> first | exact ⟨T.x_NoRun.xf, T.x_NoRun.no⟩ | exact ⟨T.x_NoAnswer.xf, T.x_NoAnswer.no⟩ | exact ⟨T.x_NotAsked.xf, T.x_NotAsked.no⟩ | exact ⟨T.x_Over.xf, T.x_Over.no⟩) (dv 0))))))))))⟩) wp__law_field, T.m__law_field, F.kp, F.bindsN fun _ _ _ _ _ _ us hl => match us, hl with | [_, _], _ => rfl⟩
theorem sc_law : FnScope ["_law_script", "_law_turn", "_law_bag_here", "_law_one", "_law_other", "_law_pairs", "_law_word", "_law_first", "_law_second", "_law_bare", "_law_e"] ["_law_script"] (defScope (top 23)) := ⟨rfl, rfl, rfl, by decide +kernel, rfl, by decide +kernel, by decide +kernel⟩
theorem ok_law {P : Program} {w : World} {K : PySem.W.Frag} {mg : Str → Option Value} {base : Heap} {fd : FuncData} (T : Txt K mg) (F : FunD K "law" "law" (defArgs (top 23)) (defBody (top 23)) (defScope (top 23)) [] [] (He.fAd K ("law", none)) fd) : FnG P w K mg base 4 (He.fAd K ("law", none)) fd ["_law_script"] (spG ⟨K, P, w⟩ mg (wfP wf_law)) := by
  obtain ⟨f__law_bag, fd__law_bag, C__law_bag⟩ := ok__law_bag (P := P) (w := w) (base := base) T
  obtain ⟨f__law_any, fd__law_any, C__law_any⟩ := ok__law_any (P := P) (w := w) (base := base) T
  obtain ⟨f__law_kinds, fd__law_kinds, C__law_kinds⟩ := ok__law_kinds (P := P) (w := w) (base := base) T
  obtain ⟨f__law_field, fd__law_field, C__law_field⟩ := ok__law_field (P := P) (w := w) (base := base) T
  exact okP (k := 3) (wd := fun _ => w_law) F sc_law wl_law (fun cdv A outer s H E Z hg hr tk hz => ⟨_,
    (b_cons (s_pre [1, 2, 3, 4, 5, 7, 8, 9] (s_for (passes_of rfl) (i_rng1 T.b_range (a_cons (d_cb (call_max2 rfl) l_max (by rfl) T.b_max (by decide +kernel) (a_cons d_int (a_cons (d_cb (call_min2 rfl) l_min (by rfl) T.b_min (by decide +kernel) (a_cons d_int (a_cons (d_cb call_len l_len (by rfl) T.b_len (by decide +kernel) (a_cons (dv 0) a_nil)) a_nil))) a_nil))) a_nil)) (g_name (i := 1) sc_law.nd rfl (by first | exact Or.inl rfl | exact Or.inr rfl)) (b_wipe [1, 2, 3, 4, 5, 7, 8, 9] (b_cons (s_take (k := 2) sc_law.nd (C__law_bag.l hg (hr.mono (by decide : 1 ≤ 3)) (a_cons (dv 0) (a_cons (dv 1) a_nil))))
      (b_cons (s_par (i := 3) (j := 4) sc_law.nd (a_cons (C__law_any.b 2 hg (hr.mono (by decide : 2 ≤ 3)) a_nil) (a_cons (C__law_any.b 2 hg (hr.mono (by decide : 2 ≤ 3)) a_nil) a_nil)))
      (b_cons (s_own (k := 5) sc_law.nd (a_cons (d_tup (a_cons d_str (a_cons (d_mkE (mk_NoBase T) (hr.mono (by decide : 2 ≤ 3)) (a_cons (dv 3) a_nil)) (a_cons (d_mkEK (mkk_NoBase T) (hr.mono (by decide : 2 ≤ 3)) (k_cons (dv 4) k_nil)) a_nil)))) (a_cons (d_tup (a_cons d_str (a_cons (d_mkE (mk_NoText T) (hr.mono (by decide : 2 ≤ 3)) (a_cons (dv 3) a_nil)) (a_cons (d_mkEK (mkk_NoText T) (hr.mono (by decide : 2 ≤ 3)) (k_cons (dv 4) k_nil)) a_nil)))) a_nil)))
      (b_cons (s_take (k := 5) sc_law.nd (n_addO 5 (d_lst (a_cons (d_tup (a_cons d_str (a_cons (d_mkE (mk_NoName T) (hr.mono (by decide : 2 ≤ 3)) (a_cons (dv 3) a_nil)) (a_cons (d_mkEK (mkk_NoName T) (hr.mono (by decide : 2 ≤ 3)) (k_cons (dv 4) k_nil)) a_nil)))) (a_cons (d_tup (a_cons d_str (a_cons (d_mkE (mk_NoPart T) (hr.mono (by decide : 2 ≤ 3)) (a_cons (dv 3) a_nil)) (a_cons (d_mkEK (mkk_NoPart T) (hr.mono (by decide : 2 ≤ 3)) (k_cons (dv 4) k_nil)) a_nil)))) a_nil)))))
      (b_cons (s_take (k := 5) sc_law.nd (n_addO 5 (d_lst (a_cons (d_tup (a_cons d_str (a_cons (d_mkE (mk_NoNumber T) (hr.mono (by decide : 2 ≤ 3)) (a_cons (dv 3) a_nil)) (a_cons (d_mkEK (mkk_NoNumber T) (hr.mono (by decide : 2 ≤ 3)) (k_cons (dv 4) k_nil)) a_nil)))) a_nil))))
      (b_cons (s_take (k := 5) sc_law.nd (n_addO 5 (d_lst (a_cons (d_tup (a_cons d_str (a_cons (d_mkE (mk_NoHistory T) (hr.mono (by decide : 2 ≤ 3)) (a_cons (dv 3) a_nil)) (a_cons (d_mkEK (mkk_NoHistory T) (hr.mono (by decide : 2 ≤ 3)) (k_cons (dv 4) k_nil)) a_nil)))) (a_cons (d_tup (a_cons d_str (a_cons (d_mkE (mk_NoRun T) (hr.mono (by decide : 2 ≤ 3)) (a_cons (dv 3) a_nil)) (a_cons (d_mkEK (mkk_NoRun T) (hr.mono (by decide : 2 ≤ 3)) (k_cons (dv 4) k_nil)) a_nil)))) a_nil)))))
      (b_cons (s_take (k := 5) sc_law.nd (n_addO 5 (d_lst (a_cons (d_tup (a_cons d_str (a_cons (d_mkE (mk_NoBranch T) (hr.mono (by decide : 2 ≤ 3)) (a_cons (dv 3) a_nil)) (a_cons (d_mkEK (mkk_NoBranch T) (hr.mono (by decide : 2 ≤ 3)) (k_cons (dv 4) k_nil)) a_nil)))) (a_cons (d_tup (a_cons d_str (a_cons (d_mkE (mk_NoCell T) (hr.mono (by decide : 2 ≤ 3)) (a_cons (dv 3) a_nil)) (a_cons (d_mkEK (mkk_NoCell T) (hr.mono (by decide : 2 ≤ 3)) (k_cons (dv 4) k_nil)) a_nil)))) a_nil)))))
      (b_cons (s_take (k := 5) sc_law.nd (n_addO 5 (d_lst (a_cons (d_tup (a_cons d_str (a_cons (d_mkE (mk_NoDepth T) (hr.mono (by decide : 2 ≤ 3)) (a_cons (dv 3) a_nil)) (a_cons (d_mkEK (mkk_NoDepth T) (hr.mono (by decide : 2 ≤ 3)) (k_cons (dv 4) k_nil)) a_nil)))) (a_cons (d_tup (a_cons d_str (a_cons (d_mkE (mk_Over T) (hr.mono (by decide : 2 ≤ 3)) (a_cons (dv 3) a_nil)) (a_cons (d_mkEK (mkk_Over T) (hr.mono (by decide : 2 ≤ 3)) (k_cons (dv 4) k_nil)) a_nil)))) a_nil)))))
      (b_cons (s_app 5 (d_tup (a_cons d_str (a_cons (d_mkE (mk_NoAnswer T) (hr.mono (by decide : 2 ≤ 3)) (a_cons (dv 3) a_nil)) (a_cons (d_mkEK (mkk_NoAnswer T) (hr.mono (by decide : 2 ≤ 3)) (k_cons (dv 4) k_nil)) a_nil)))))
      (b_cons (s_app 5 (d_tup (a_cons d_str (a_cons (d_mkE (mk_NotAsked T) (hr.mono (by decide : 2 ≤ 3)) (a_cons (dv 3) a_nil)) (a_cons (d_mkEK (mkk_NotAsked T) (hr.mono (by decide : 2 ≤ 3)) (k_cons (dv 4) k_nil)) a_nil)))))
      (b_cons (s_freeze 5 (s_pre [1, 2, 7, 8, 9] (s_for (passes_of rfl) (i_list (dv 5)) (g_tup rfl (gs_cons (g_name (i := 6) sc_law.nd rfl (by first | exact Or.inl rfl | exact Or.inr rfl)) (gs_cons (g_name (i := 7) sc_law.nd rfl (by first | exact Or.inl rfl | exact Or.inr rfl)) (gs_cons (g_name (i := 8) sc_law.nd rfl (by first | exact Or.inl rfl | exact Or.inr rfl)) gs_nil)))) (b_wipe [1, 2, 7, 8, 9] (b_cons (s_if (c_w (c_or (c_cmp (op_neA hr.units) l_ne (C__law_kinds.p hg (hr.mono (by decide : 1 ≤ 3)) (a_cons (dv 7) a_nil)) (dv 6) (nomark _)) (c_or1 (c_cmp (op_neA hr.units) l_ne (C__law_kinds.p hg (hr.mono (by decide : 1 ≤ 3)) (a_cons (dv 8) a_nil)) (dv 6) (nomark _))))) (b_one (s_ret d_bl)) b_nil)
      (b_one (s_if (c_w (c_or (c_cmp (op_neA hr.units) l_ne (d_cb (call_reprD hg (r80 hr)) l_repr (by rfl) T.b_repr (by decide +kernel) (a_cons (C__law_field.p hg (hr.mono (by decide : 1 ≤ 3)) (a_cons (dv 7) (a_cons (dv 6) a_nil))) a_nil)) (d_cb (call_reprD hg (r80 hr)) l_repr (by rfl) T.b_repr (by decide +kernel) (a_cons (dv 3) a_nil)) (nomark _)) (c_or1 (c_cmp (op_neA hr.units) l_ne (d_cb (call_reprD hg (r80 hr)) l_repr (by rfl) T.b_repr (by decide +kernel) (a_cons (C__law_field.p hg (hr.mono (by decide : 1 ≤ 3)) (a_cons (dv 8) (a_cons (dv 6) a_nil))) a_nil)) (d_cb (call_reprD hg (r80 hr)) l_repr (by rfl) T.b_repr (by decide +kernel) (a_cons (dv 4) a_nil)) (nomark _))))) (b_one (s_ret d_bl)) b_nil)))))))
      (b_cons (s_set (i := 9) sc_law.nd (d_lst (a_cons (d_tup (a_cons d_str (a_cons (d_mkE0 T.xb_NoRows T.m_NoRows) a_nil))) (a_cons (d_tup (a_cons d_str (a_cons (d_mkE0 T.xb_NoStand T.m_NoStand) a_nil))) (a_cons (d_tup (a_cons d_str (a_cons (d_mkE0 T.xb_NoCommand T.m_NoCommand) a_nil))) a_nil)))))
      (b_one (s_if (c_cmp (op_neA hr.units) l_ne (PNd.ee (d_comp [("_law_word", 6), ("_law_e", 10)] sc_law.nd (blkOk_by (N := ["_law_script", "_law_turn", "_law_bag_here", "_law_one", "_law_other", "_law_pairs", "_law_word", "_law_first", "_law_second", "_law_bare", "_law_e"]) (sc := defScope (top 23)) (by decide +kernel)) turns1 (i_list (dv 9)) (fun _ _ _ _ _ => (q_tup (qs_cons (q_name (i := 6) sc_law.nd) (qs_cons (q_name (i := 10) sc_law.nd) qs_nil)))) (fun _ _ _ _ _ => ts_nil) (fun _ _ _ _ _ => (kt_last (C__law_kinds.p hg (hr.mono (by decide : 1 ≤ 3)) (a_cons (dv 10) a_nil)))))) (PNd.ee (d_comp [("_law_word", 6), ("_law_e", 10)] sc_law.nd (blkOk_by (N := ["_law_script", "_law_turn", "_law_bag_here", "_law_one", "_law_other", "_law_pairs", "_law_word", "_law_first", "_law_second", "_law_bare", "_law_e"]) (sc := defScope (top 23)) (by decide +kernel)) turns1 (i_list (dv 9)) (fun _ _ _ _ _ => (q_tup (qs_cons (q_name (i := 6) sc_law.nd) (qs_cons (q_name (i := 10) sc_law.nd) qs_nil)))) (fun _ _ _ _ _ => ts_nil) (fun _ _ _ _ _ => (kt_last (dv 6))))) (nomark _)) (b_one (s_ret d_bl)) b_nil)))))))))))))))))
      (b_one (s_ret d_bl)))⟩) wp_law
abbrev dd (x : Str) (i : Nat) (kwd : List (Str × He.Dv)) : He.DefD := ⟨(x, none), x, x, defArgs (top i), defBody (top i), defScope (top i), [], kwd⟩
abbrev dx (x q : Str) (i : Nat) : He.DefD := ⟨(x, some "__init__"), "__init__", q, defArgs (inClass (top i) 0), defBody (inClass (top i) 0), defScope (inClass (top i) 0), [], []⟩
def fn : List He.DefD := [dd "_law_bag" 18 [], dd "_law_take" 19 [], dd "_law_any" 20 [], dd "_law_kinds" 21 [], dd "_law_field" 22 [], dd "law" 23 [], dx "NoBase" "NoBase.__init__" 1, dx "NoText" "NoText.__init__" 2, dx "NoName" "NoName.__init__" 5, dx "NoNumber" "NoNumber.__init__" 6, dx "NoHistory" "NoHistory.__init__" 7, dx "NoPart" "NoPart.__init__" 9, dx "NoRun" "NoRun.__init__" 10, dx "NoBranch" "NoBranch.__init__" 11, dx "NoCell" "NoCell.__init__" 12, dx "NoDepth" "NoDepth.__init__" 13, dx "NoAnswer" "NoAnswer.__init__" 14, dx "NotAsked" "NotAsked.__init__" 15, dx "Over" "Over.__init__" 16]
def fa : List He.Fa := [.glo "_law_bag", .glo "_law_take", .glo "_law_any", .glo "_law_kinds", .glo "_law_field", .glo "law", .free "IndexError", .free "KeyError", .free "LookupError", .free "RuntimeError", .free "ValueError", .free "abs", .free "isinstance", .free "len", .free "max", .free "min", .free "range", .free "repr", .glo "NoBase", .glo "NoText", .glo "NoName", .glo "NoNumber", .glo "NoHistory", .glo "NoPart", .glo "NoRun", .glo "NoBranch", .glo "NoCell", .glo "NoDepth", .glo "NoAnswer", .glo "NotAsked", .glo "Over", .glo "NoCommand", .glo "NoRows", .glo "NoStand"]
def exl (K : PySem.W.Frag) : List Bool := [xtB K "NoBase" "base" "ValueError.__new__" veBm,
  xtB K "NoText" "row" "ValueError.__new__" veBm,
  xtB K "NoName" "name" "ValueError.__new__" veBm,
  xtB K "NoNumber" "number" "ValueError.__new__" veBm,
  xtB K "NoHistory" "at" "ValueError.__new__" veBm,
  xtB K "NoPart" "name" "LookupError.__new__" keBm,
  xtB K "NoRun" "run" "LookupError.__new__" keBm,
  xtB K "NoBranch" "at" "IndexError.__new__" ieBm,
  xtB K "NoCell" "cell" "IndexError.__new__" ieBm,
  xtB K "NoDepth" "depth" "IndexError.__new__" ieBm,
  xtB K "NoAnswer" "run" "LookupError.__new__" leBm,
  xtB K "NotAsked" "run" "RuntimeError.__new__" reBm,
  xtB K "Over" "run" "RuntimeError.__new__" reBm,
  tabB K (.type "IndexError") tb_IndexError,
  tabB K (.type "KeyError") tb_KeyError,
  tabB K (.type "LookupError") tb_LookupError,
  tabB K (.ref (He.ga K "NoAnswer")) tb_NoAnswer,
  tabB K (.ref (He.ga K "NoBase")) tb_NoBase,
  tabB K (.ref (He.ga K "NoBranch")) tb_NoBranch,
  tabB K (.ref (He.ga K "NoCell")) tb_NoCell,
  tabB K (.ref (He.ga K "NoCommand")) tb_NoCommand,
  tabB K (.ref (He.ga K "NoDepth")) tb_NoDepth,
  tabB K (.ref (He.ga K "NoHistory")) tb_NoHistory,
  tabB K (.ref (He.ga K "NoName")) tb_NoName,
  tabB K (.ref (He.ga K "NoNumber")) tb_NoNumber,
  tabB K (.ref (He.ga K "NoPart")) tb_NoPart,
  tabB K (.ref (He.ga K "NoRows")) tb_NoRows,
  tabB K (.ref (He.ga K "NoRun")) tb_NoRun,
  tabB K (.ref (He.ga K "NoStand")) tb_NoStand,
  tabB K (.ref (He.ga K "NoText")) tb_NoText,
  tabB K (.ref (He.ga K "NotAsked")) tb_NotAsked,
  tabB K (.ref (He.ga K "Over")) tb_Over,
  tabB K (.type "RuntimeError") tb_RuntimeError,
  tabB K (.type "ValueError") tb_ValueError,
  xbB K "NoRows",
  xbB K "NoStand",
  xbB K "NoCommand"]
def ex (K : PySem.W.Frag) : Bool := (exl K).all id
abbrev R : PySem.W.OpenRow := PySem.W.OpenLaw.row PySem.Challenge.rw_callsover_k22_errors_made
abbrev hk : PySem.W.Hook := He.hookX 4 fa fn [] [] ex
def ob (s : PySem.W.SharedT) : He.AlX := He.obsX 4 fa fn [] [] ex (HandSHeadRun.getT s)
theorem ob_eq (s : PySem.W.SharedT) : ob s = hk.obs s.abs := He.obsX_eq (HandSHeadRun.getT_eq s)
def names : List Str := [("NoBase" : PySem.Str), ("NoText" : PySem.Str), ("NoRows" : PySem.Str), ("NoStand" : PySem.Str), ("NoName" : PySem.Str), ("NoNumber" : PySem.Str), ("NoHistory" : PySem.Str), ("NoCommand" : PySem.Str), ("NoPart" : PySem.Str), ("NoRun" : PySem.Str), ("NoBranch" : PySem.Str), ("NoCell" : PySem.Str), ("NoDepth" : PySem.Str), ("NoAnswer" : PySem.Str), ("NotAsked" : PySem.Str), ("Over" : PySem.Str), ("_law_bag" : PySem.Str), ("_law_take" : PySem.Str), ("_law_any" : PySem.Str), ("_law_kinds" : PySem.Str), ("_law_field" : PySem.Str)]
theorem run (w : World) : HandSHeadRun.RunEq R (PySem.W.view R.prog [23]) hk ob 6000 names w := by
  intro os
  kernel_rfl
theorem facts {w : World} {K : PySem.W.Frag} {h h0 : Heap} {mg : Str → Option Value} (X : K.In h) (G : h.Ns mainGlobals mg) (c : He.SaysX fa fn [] [] ex w h0 K) : Txt K mg where
  m__law_bag := He.glo_ok X G (c.t.d.fact 0 (f := .glo "_law_bag") rfl)
  f__law_bag := c.t.d.def_ 0 (d := dd "_law_bag" 18 []) rfl
  m__law_take := He.glo_ok X G (c.t.d.fact 1 (f := .glo "_law_take") rfl)
  f__law_take := c.t.d.def_ 1 (d := dd "_law_take" 19 []) rfl
  m__law_any := He.glo_ok X G (c.t.d.fact 2 (f := .glo "_law_any") rfl)
  f__law_any := c.t.d.def_ 2 (d := dd "_law_any" 20 []) rfl
  m__law_kinds := He.glo_ok X G (c.t.d.fact 3 (f := .glo "_law_kinds") rfl)
  f__law_kinds := c.t.d.def_ 3 (d := dd "_law_kinds" 21 []) rfl
  m__law_field := He.glo_ok X G (c.t.d.fact 4 (f := .glo "_law_field") rfl)
  f__law_field := c.t.d.def_ 4 (d := dd "_law_field" 22 []) rfl
  m_law := He.glo_ok X G (c.t.d.fact 5 (f := .glo "law") rfl)
  f_law := c.t.d.def_ 5 (d := dd "law" 23 []) rfl
  b_IndexError := He.free_ok X G (c.t.d.fact 6 (f := .free "IndexError") rfl)
  b_KeyError := He.free_ok X G (c.t.d.fact 7 (f := .free "KeyError") rfl)
  b_LookupError := He.free_ok X G (c.t.d.fact 8 (f := .free "LookupError") rfl)
  b_RuntimeError := He.free_ok X G (c.t.d.fact 9 (f := .free "RuntimeError") rfl)
  b_ValueError := He.free_ok X G (c.t.d.fact 10 (f := .free "ValueError") rfl)
  b_abs := He.free_ok X G (c.t.d.fact 11 (f := .free "abs") rfl)
  b_isinstance := He.free_ok X G (c.t.d.fact 12 (f := .free "isinstance") rfl)
  b_len := He.free_ok X G (c.t.d.fact 13 (f := .free "len") rfl)
  b_max := He.free_ok X G (c.t.d.fact 14 (f := .free "max") rfl)
  b_min := He.free_ok X G (c.t.d.fact 15 (f := .free "min") rfl)
  b_range := He.free_ok X G (c.t.d.fact 16 (f := .free "range") rfl)
  b_repr := He.free_ok X G (c.t.d.fact 17 (f := .free "repr") rfl)
  m_NoBase := He.glo_ok X G (c.t.d.fact 18 (f := .glo "NoBase") rfl)
  x_NoBase := xtv_ok (all_at (l := exl K) c.more 0 rfl)
  i_NoBase := c.t.d.def_ 6 (d := dx "NoBase" "NoBase.__init__" 1) rfl
  m_NoText := He.glo_ok X G (c.t.d.fact 19 (f := .glo "NoText") rfl)
  x_NoText := xtv_ok (all_at (l := exl K) c.more 1 rfl)
  i_NoText := c.t.d.def_ 7 (d := dx "NoText" "NoText.__init__" 2) rfl
  m_NoName := He.glo_ok X G (c.t.d.fact 20 (f := .glo "NoName") rfl)
  x_NoName := xtv_ok (all_at (l := exl K) c.more 2 rfl)
  i_NoName := c.t.d.def_ 8 (d := dx "NoName" "NoName.__init__" 5) rfl
  m_NoNumber := He.glo_ok X G (c.t.d.fact 21 (f := .glo "NoNumber") rfl)
  x_NoNumber := xtv_ok (all_at (l := exl K) c.more 3 rfl)
  i_NoNumber := c.t.d.def_ 9 (d := dx "NoNumber" "NoNumber.__init__" 6) rfl
  m_NoHistory := He.glo_ok X G (c.t.d.fact 22 (f := .glo "NoHistory") rfl)
  x_NoHistory := xtv_ok (all_at (l := exl K) c.more 4 rfl)
  i_NoHistory := c.t.d.def_ 10 (d := dx "NoHistory" "NoHistory.__init__" 7) rfl
  m_NoPart := He.glo_ok X G (c.t.d.fact 23 (f := .glo "NoPart") rfl)
  x_NoPart := xtk_ok (all_at (l := exl K) c.more 5 rfl)
  i_NoPart := c.t.d.def_ 11 (d := dx "NoPart" "NoPart.__init__" 9) rfl
  m_NoRun := He.glo_ok X G (c.t.d.fact 24 (f := .glo "NoRun") rfl)
  x_NoRun := xtk_ok (all_at (l := exl K) c.more 6 rfl)
  i_NoRun := c.t.d.def_ 12 (d := dx "NoRun" "NoRun.__init__" 10) rfl
  m_NoBranch := He.glo_ok X G (c.t.d.fact 25 (f := .glo "NoBranch") rfl)
  x_NoBranch := xti_ok (all_at (l := exl K) c.more 7 rfl)
  i_NoBranch := c.t.d.def_ 13 (d := dx "NoBranch" "NoBranch.__init__" 11) rfl
  m_NoCell := He.glo_ok X G (c.t.d.fact 26 (f := .glo "NoCell") rfl)
  x_NoCell := xti_ok (all_at (l := exl K) c.more 8 rfl)
  i_NoCell := c.t.d.def_ 14 (d := dx "NoCell" "NoCell.__init__" 12) rfl
  m_NoDepth := He.glo_ok X G (c.t.d.fact 27 (f := .glo "NoDepth") rfl)
  x_NoDepth := xti_ok (all_at (l := exl K) c.more 9 rfl)
  i_NoDepth := c.t.d.def_ 15 (d := dx "NoDepth" "NoDepth.__init__" 13) rfl
  m_NoAnswer := He.glo_ok X G (c.t.d.fact 28 (f := .glo "NoAnswer") rfl)
  x_NoAnswer := xtl_ok (all_at (l := exl K) c.more 10 rfl)
  i_NoAnswer := c.t.d.def_ 16 (d := dx "NoAnswer" "NoAnswer.__init__" 14) rfl
  m_NotAsked := He.glo_ok X G (c.t.d.fact 29 (f := .glo "NotAsked") rfl)
  x_NotAsked := xtr_ok (all_at (l := exl K) c.more 11 rfl)
  i_NotAsked := c.t.d.def_ 17 (d := dx "NotAsked" "NotAsked.__init__" 15) rfl
  m_Over := He.glo_ok X G (c.t.d.fact 30 (f := .glo "Over") rfl)
  x_Over := xtr_ok (all_at (l := exl K) c.more 12 rfl)
  i_Over := c.t.d.def_ 18 (d := dx "Over" "Over.__init__" 16) rfl
  t_IndexError := tabB_ok (all_at (l := exl K) c.more 13 rfl)
  t_KeyError := tabB_ok (all_at (l := exl K) c.more 14 rfl)
  t_LookupError := tabB_ok (all_at (l := exl K) c.more 15 rfl)
  t_NoAnswer := tabB_ok (all_at (l := exl K) c.more 16 rfl)
  t_NoBase := tabB_ok (all_at (l := exl K) c.more 17 rfl)
  t_NoBranch := tabB_ok (all_at (l := exl K) c.more 18 rfl)
  t_NoCell := tabB_ok (all_at (l := exl K) c.more 19 rfl)
  m_NoCommand := He.glo_ok X G (c.t.d.fact 31 (f := .glo "NoCommand") rfl)
  t_NoCommand := tabB_ok (all_at (l := exl K) c.more 20 rfl)
  t_NoDepth := tabB_ok (all_at (l := exl K) c.more 21 rfl)
  t_NoHistory := tabB_ok (all_at (l := exl K) c.more 22 rfl)
  t_NoName := tabB_ok (all_at (l := exl K) c.more 23 rfl)
  t_NoNumber := tabB_ok (all_at (l := exl K) c.more 24 rfl)
  t_NoPart := tabB_ok (all_at (l := exl K) c.more 25 rfl)
  m_NoRows := He.glo_ok X G (c.t.d.fact 32 (f := .glo "NoRows") rfl)
  t_NoRows := tabB_ok (all_at (l := exl K) c.more 26 rfl)
  t_NoRun := tabB_ok (all_at (l := exl K) c.more 27 rfl)
  m_NoStand := He.glo_ok X G (c.t.d.fact 33 (f := .glo "NoStand") rfl)
  t_NoStand := tabB_ok (all_at (l := exl K) c.more 28 rfl)
  t_NoText := tabB_ok (all_at (l := exl K) c.more 29 rfl)
  t_NotAsked := tabB_ok (all_at (l := exl K) c.more 30 rfl)
  t_Over := tabB_ok (all_at (l := exl K) c.more 31 rfl)
  t_RuntimeError := tabB_ok (all_at (l := exl K) c.more 32 rfl)
  t_ValueError := tabB_ok (all_at (l := exl K) c.more 33 rfl)
  xb_NoRows := xb_ok (all_at (l := exl K) c.more 34 rfl)
  xb_NoStand := xb_ok (all_at (l := exl K) c.more 35 rfl)
  xb_NoCommand := xb_ok (all_at (l := exl K) c.more 36 rfl)
theorem fin {P : Program} {w : World} {K : PySem.W.Frag} {h h0 : Heap} {mg : Str → Option Value} {fa : Addr} (X : K.In h) (G : h.Ns mainGlobals mg) (hmg : mg ("law" : Str) = some (.ref fa)) (c : He.SaysX Lw.fa fn [] [] ex w h0 K) :
    ∃ (K : PySem.W.Frag) (fd : FuncData), K.In h ∧ (∀ (s : Shared) (u : Value), BindsTo s fd ⟨[u], []⟩ [("_law_script", u)]) ∧ ∀ base : Heap, K.In base → base.Ns mainGlobals mg → FnG P w K mg base 4 fa fd ["_law_script"] (spG ⟨K, P, w⟩ mg (wfP wf_law)) := by
  have T := facts X G c
  obtain ⟨fd, F⟩ := T.f_law
  have e := hmg.symm.trans T.m_law
  cases e
  have b := FunD.bindsA (ps := ["_law_script"]) F fun _ _ _ _ _ _ us hl => match us, hl with | [_], _ => rfl
  exact ⟨K, fd, X, fun s v => b s [v] rfl, fun base _ _ => ok_law T F⟩
end Lw
open PySem PySem.W PySem.Calls PyProof.Rows
theorem PySem.Challenge.cw_callsover_k22_errors_made_holds : PySem.Challenge.rw_callsover_k22_errors_made.Holds := by
  w_on; o_law
  refine HandSHeadRun.head_any (r := OpenLaw.row PySem.Challenge.rw_callsover_k22_errors_made) (q := view (OpenLaw.row PySem.Challenge.rw_callsover_k22_errors_made).prog [23]) (H := Lw.hk) (ob := Lw.ob) (M := 6000) (loose := [("NoBase" : PySem.Str), ("NoText" : PySem.Str), ("NoRows" : PySem.Str), ("NoStand" : PySem.Str), ("NoName" : PySem.Str), ("NoNumber" : PySem.Str), ("NoHistory" : PySem.Str), ("NoCommand" : PySem.Str), ("NoPart" : PySem.Str), ("NoRun" : PySem.Str), ("NoBranch" : PySem.Str), ("NoCell" : PySem.Str), ("NoDepth" : PySem.Str), ("NoAnswer" : PySem.Str), ("NotAsked" : PySem.Str), ("Over" : PySem.Str), ("_law_bag" : PySem.Str), ("_law_take" : PySem.Str), ("_law_any" : PySem.Str), ("_law_kinds" : PySem.Str), ("_law_field" : PySem.Str)]) (d := HandSHeadRun.topDef (OpenLaw.row PySem.Challenge.rw_callsover_k22_errors_made).prog 23) (kwd := []) Lw.ob_eq
    (by kernel_rfl) (fun s => by kernel_rfl) Lw.run (by kernel_rfl) (by kernel_rfl) (by kernel_rfl) (by rfl) (by first | assumption | decide +kernel) (by decide +kernel) ⟨rfl, rfl, rfl, rfl, rfl, by decide +kernel⟩ ?hw ?hc
  case hw => w_witness2
  case hc =>
    refine Dat.walkGE (l := PySem.Challenge.rw_callsover_k22_errors_made) (n := 63) (k := 4) (x := "_law_script") (wf := Pl.wf_law) rfl (by decide) (by kernel_rfl) ⟨rfl, by decide, by decide⟩ ?F (fun ns hl => Pl.wf_law_at ns hl)
    intro w mg fa h Y G hmg0
    obtain ⟨K, KX, c⟩ := Y
    have hmg : mg ("law" : PySem.Str) = some (.ref fa) := by
      have e : (HandSHeadRun.topDef (OpenLaw.row PySem.Challenge.rw_callsover_k22_errors_made).prog 23).name = ("law" : PySem.Str) := by kernel_rfl
      rw [← e]
      exact hmg0
    exact Lw.fin KX G hmg c
