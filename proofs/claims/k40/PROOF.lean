import PyProof.Rows.All
import HandS.TupSets
import Wide.All
import OpenK.AllK
import Wide.FinOn
import PyProof.EqAt
import PyProof.EqKinds
import PyProof.TupleCall
import HandS.ForMost
import HandS.ForExc
import HandS.TupAny
import HandS.TupLe
import KE.SortData
import HandS.Defaults
import HandS.HeadHook4
import KE.KIsAll
import KE.KTryMore
import HandS.ExcIs
import HandS.Iter
import KE.KDictList
import HandS.Text
import HandS.More
import HandS.Conv
import HandS.DictTup
import HandS.TupLen
import PySem.Challenge.RW_markwalkers_k40_whole_texts
import KE.KStateDown
import HandS.Head0
import HandS.Head1
import HandS.Head2
import HandS.HeadHook1
import HandS.HeadHook2
import HandS.HeadHook3
import HandS.HeadEnd
import HandS.Ends
import HandS.Codes
import HandS.Replace
import HandS.TryOnly
import HandS.Style
import HandS.IsInst
import KE.GoesComp
import HandS.Comp
import PyProof.StrOps2
set_option Elab.async false
set_option linter.all false
set_option maxRecDepth 100000
set_option maxHeartbeats 2000000
namespace MW
open PySem PySem.Spec PyProof.Rows L2
/-! ### the tables of a set of up to some hundred things -/
def Msk (m : Nat) : Prop := MaskOk m ∨ m = 511
def orb : Nat → Nat → List Nat
  | 0, _ => []
  | n + 1, x => x :: orb n ((x * 5 + 1) % 512)
theorem orb_mem : ∀ (n a : Nat) {j : Nat}, j ∈ orb n (lcgN 511 a) → ∃ b, b < n ∧ lcgN 511 (a + b) = j
  | 0, _, _, h => nomatch h
  | n + 1, a, j, h => by
    rcases List.mem_cons.mp h with e | h
    · exact ⟨0, Nat.succ_pos _, e.symm⟩
    · obtain ⟨b, hb, e⟩ := orb_mem n (a + 1) h
      exact ⟨b + 1, by omega, by rw [← e, show a + (b + 1) = a + 1 + b by omega]⟩
theorem orb_all : ((List.range 512).all fun j => (orb 512 0).contains j) = true := by decide +kernel
theorem orb_back : lcgN 511 512 = 0 := by decide +kernel
theorem orb_turn : ∀ k, lcgN 511 (512 + k) = lcgN 511 k
  | 0 => orb_back
  | k + 1 => congrArg (fun x => (x * 5 + 1) % 512) (orb_turn k)
theorem orb_at {j : Nat} (hj : j < 512) : ∃ b, b < 512 ∧ lcgN 511 b = j := by
  have h := List.all_eq_true.mp orb_all j (List.mem_range.mpr hj)
  obtain ⟨b, hb, e⟩ := orb_mem 512 0 (List.contains_iff_mem.mp h)
  exact ⟨b, hb, by rw [← e, Nat.zero_add]⟩
theorem orb_from {i j : Nat} (hi : i < 512) (hj : j < 512) : ∃ k, k < 512 ∧ lcgI 511 i k = j := by
  obtain ⟨a, ha, rfl⟩ := orb_at hi
  obtain ⟨b, hb, rfl⟩ := orb_at hj
  by_cases c : a ≤ b
  · exact ⟨b - a, by omega, by rw [lcgN_add, show a + (b - a) = b by omega]⟩
  · exact ⟨512 + b - a, by omega, by rw [lcgN_add, show a + (512 + b - a) = 512 + b by omega, orb_turn]⟩
/-- from every hash each slot begins a run, soon -/
theorem meets {m : Nat} (hm : Msk m) (h : Int) {j : Nat} (hj : j ≤ m) : ∃ n, n ≤ m + 12 ∧ runI m (SetTable.bits h) n = j := by
  rcases hm with hm | rfl
  · exact run_meets hm h hj
  · obtain ⟨k, hk, e⟩ := orb_from (Nat.lt_succ_of_le (runI_le 511 (SetTable.bits h) 12)) (Nat.lt_succ_of_le hj)
    exact ⟨12 + k, by omega, (runI_tail (bits_lt h) k).trans e⟩
theorem wayLe (m : Nat) (h : Int) (k : Nat) : way m h k ≤ m := by
  have h0 : SetTable.bits h % (m + 1) ≤ m := Nat.le_of_lt_succ (Nat.mod_lt _ (Nat.succ_pos _))
  obtain ⟨r1, r2, _⟩ := runEnd_bd h0
  exact Nat.le_trans (Nat.le_add_right _ _) (nth_in k (runAt m (SetTable.bits h % (m + 1)) (SetTable.bits h)) (by show SetTable.bits h % (m + 1) + (SetTable.runEnd m (SetTable.bits h % (m + 1)) - SetTable.bits h % (m + 1)) ≤ m; omega))
/-- the place of the n-th run on the way -/
theorem way_run (m : Nat) (h : Int) (n : Nat) : way m h (off m (SetTable.bits h % (m + 1)) (SetTable.bits h) n) = runI m (SetTable.bits h) n := by
  show (nth m (runAt m (SetTable.bits h % (m + 1)) (SetTable.bits h)) _).j = _
  rw [nth_off, itL_run]
  rfl
/-- the first place of the way that is not taken -/
theorem first_free {m : Nat} (hm : Msk m) (h : Int) {p : Nat → Prop} {j : Nat} (hj : j ≤ m) (hp : p j) : ∃ n K, n ≤ m + 12 ∧ K ≤ off m (SetTable.bits h % (m + 1)) (SetTable.bits h) n ∧ p (way m h K) ∧ ∀ k, k < K → ¬ p (way m h k) := by
  obtain ⟨n, hn, e⟩ := meets hm h hj
  obtain ⟨K, k1, k2, k3⟩ := st_least (p := fun k => p (way m h k)) (off m (SetTable.bits h % (m + 1)) (SetTable.bits h) n) (by rw [way_run, e]; exact hp)
  exact ⟨n, K, hn, k1, k2, k3⟩
theorem off_le (m : Nat) : ∀ (n i b : Nat), i ≤ m → off m i b n ≤ 10 * n
  | 0, _, _, _ => Nat.le_refl _
  | n + 1, i, b, hi => by
    have r := runEnd_bd hi
    have q := off_le m n _ (SetTable.leap m i b).2 (leap_le m i b)
    show SetTable.runEnd m i - i + 1 + off m (SetTable.leap m i b).1 (SetTable.leap m i b).2 n ≤ 10 * (n + 1)
    omega
/-- a table in which all is found again -/
structure Tb (t : SetTable) (hs : List Int) : Prop where
  up : Ris t.place.toList
  dm : t.dummies = #[]
  len : t.place.toList.length = hs.length
  msk : Msk t.mask
  inn : ∀ x ∈ t.place.toList, x ≤ t.mask
  rch : ∀ (i : Nat) (h : Int) (j : Nat), hs[i]? = some h → t.place.toList[i]? = some j → ∃ k, way t.mask h k = j ∧ ∀ c, c < k → way t.mask h c ∈ t.place.toList
/-- where a search ends -/
theorem Tb.stop {t : SetTable} {hs : List Int} (T : Tb t hs) (hl : hs.length ≤ t.mask) (h : Int) : ∃ K, K < 10 * SetTable.turns t.mask ∧ way t.mask h K ∉ t.place.toList ∧ ∀ c, c < K → way t.mask h c ∈ t.place.toList := by
  obtain ⟨j, hj, nj⟩ := st_missing t.place.toList (t.mask + 1) (by rw [T.len]; omega)
  obtain ⟨n, K, hn, k1, k2, k3⟩ := first_free T.msk h (p := fun x => x ∉ t.place.toList) (Nat.le_of_lt_succ hj) nj
  have q := off_le t.mask n (SetTable.bits h % (t.mask + 1)) (SetTable.bits h) (Nat.le_of_lt_succ (Nat.mod_lt (SetTable.bits h) (Nat.succ_pos t.mask)))
  exact ⟨K, by unfold SetTable.turns; omega, k2, fun c hc => Classical.byContradiction (k3 c hc)⟩
theorem Tb.ahead {t : SetTable} {hs : List Int} (T : Tb t hs) {h : Int} {K i j : Nat} (hK : way t.mask h K ∉ t.place.toList) (hi : hs[i]? = some h) (hj : t.place.toList[i]? = some j) : ∃ c, c < K ∧ way t.mask h c = j := by
  obtain ⟨k, e, b⟩ := T.rch i h j hi hj
  refine ⟨k, Classical.byContradiction fun n => ?_, e⟩
  by_cases c : k = K
  · subst c
    rw [e] at hK
    exact hK (List.mem_of_getElem? hj)
  · exact hK (b K (by omega))
/-- one more, at the place where the search ended -/
theorem Tb.more {t : SetTable} {hs : List Int} (T : Tb t hs) {h : Int} {K p : Nat} (hK : way t.mask h K ∉ t.place.toList) (hb : ∀ c, c < K → way t.mask h c ∈ t.place.toList) (hp : p = SetTable.below t.place (way t.mask h K)) :
    p ≤ hs.length ∧ Tb (t.put (way t.mask h K)).1 (hs.take p ++ h :: hs.drop p) := by
  subst hp
  have pl := put_place t (way t.mask h K)
  have le : SetTable.below t.place (way t.mask h K) ≤ t.place.toList.length := (below_cut T.up (way t.mask h K)).1
  have le2 : SetTable.below t.place (way t.mask h K) ≤ hs.length := T.len ▸ le
  have grow : ∀ x, x ∈ t.place.toList → x ∈ (t.put (way t.mask h K)).1.place.toList := fun x hx => by rw [pl]; exact L2.mem_ins.mpr (.inr hx)
  refine ⟨le2, ris_insert T.up fun e => hK (List.mem_of_getElem? (by rw [Array.getElem?_toList]; exact e)), put_dm T.dm _, ?_, T.msk, fun x hx => ?_, fun i h' j e1 e2 => ?_⟩
  · rw [pl, len_ins _ le, len_ins _ le2, T.len]
  · rw [pl] at hx
    rcases L2.mem_ins.mp hx with e | hx
    · rw [e]; exact wayLe _ _ _
    · exact T.inn x hx
  · rw [pl, tins_get _ le] at e2
    rw [tins_get _ le2] at e1
    have old : ∀ i', hs[i']? = some h' → t.place.toList[i']? = some j → ∃ k, way (t.put (way t.mask h K)).1.mask h' k = j ∧ ∀ c, c < k → way (t.put (way t.mask h K)).1.mask h' c ∈ (t.put (way t.mask h K)).1.place.toList := fun i' a b =>
      let ⟨k, e, z⟩ := T.rch i' h' j a b
      ⟨k, e, fun c hc => grow _ (z c hc)⟩
    split at e1
    · rename_i c
      rw [if_pos c] at e2
      exact old _ e1 e2
    · rename_i c
      rw [if_neg c] at e2
      split at e1
      · rename_i d
        rw [if_pos d] at e2
        have a1 := Option.some.inj e1
        have a2 := Option.some.inj e2
        subst a1
        exact ⟨K, a2, fun c hc => grow _ (hb c hc)⟩
      · rename_i d
        rw [if_neg d] at e2
        exact old _ e1 e2
/-! ### laid anew -/
theorem own_next {m : Nat} (hm : Msk m) {done : List Int} {owner : Array (Option Nat)} (W : Own m done owner) (hl : done.length ≤ m) (h : Int) :
    ∃ j, SetTable.layClean.free m owner (SetTable.turns m) (SetTable.bits h % (m + 1)) (SetTable.bits h) = some j ∧ Own m (done ++ [h]) (owner.setIfInBounds j (some done.length)) := by
  obtain ⟨ps, lp, ip⟩ := W.ps
  obtain ⟨j0, l0, n0⟩ := st_missing ps (m + 1) (by omega)
  have z0 : oAt owner j0 = none := Classical.byContradiction fun z => n0 (ip j0 (Nat.le_of_lt_succ l0) z)
  obtain ⟨n, K, hn, k1, k2, k3⟩ := first_free hm h (p := fun x => oAt owner x = none) (Nat.le_of_lt_succ l0) z0
  have le := wayLe m h K
  have bd : way m h K < owner.size := by rw [W.sz]; omega
  have here := oAt_set_self (owner := owner) (some done.length) bd
  have keep : ∀ i, oAt owner i ≠ none → oAt (owner.setIfInBounds (way m h K) (some done.length)) i ≠ none := fun i hi => by
    by_cases c : i = way m h K
    · rw [c, here]; simp
    · rw [oAt_set_ne _ c]; exact hi
  refine ⟨way m h K, free_spec m owner (SetTable.turns m) n _ _ K (by unfold SetTable.turns; omega) k1 (fun k hk => ?_) ?_, ?_⟩
  · have q := k3 k hk
    generalize hz : oAt owner (nth m (runAt m (SetTable.bits h % (m + 1)) (SetTable.bits h)) k).j = z
    cases z with
    | none => exact absurd hz q
    | some _ => rfl
  · rw [show oAt owner (nth m (runAt m (SetTable.bits h % (m + 1)) (SetTable.bits h)) K).j = none from k2]
    rfl
  refine ⟨by rw [Array.size_setIfInBounds]; exact W.sz, fun j k hj e => ?_, fun k hk => ?_, way m h K :: ps, by simp [lp], fun j hj e => ?_⟩
  · by_cases c : j = way m h K
    · subst c
      rw [here] at e
      cases e
      exact ⟨h, K, by simp, rfl, fun c hc => keep _ (k3 c hc)⟩
    · rw [oAt_set_ne _ c] at e
      obtain ⟨h', K', a1, a2, a3⟩ := W.at_ j k hj e
      exact ⟨h', K', by rw [List.getElem?_append_left (List.getElem?_eq_some_iff.mp a1).1]; exact a1, a2, fun c hc => keep _ (a3 c hc)⟩
  · by_cases c : k = done.length
    · exact ⟨way m h K, le, by rw [here, c]⟩
    · obtain ⟨j, hj, e⟩ := W.all k (by simp at hk; omega)
      refine ⟨j, hj, ?_⟩
      rw [oAt_set_ne _ fun z => ?_]
      · exact e
      · rw [z, k2] at e
        cases e
  · by_cases c : j = way m h K
    · simp [c]
    · rw [oAt_set_ne _ c] at e
      exact List.mem_cons_of_mem _ (ip j hj e)
theorem own_all {m : Nat} (hm : Msk m) : ∀ (rest done : List Int) (owner : Array (Option Nat)), Own m done owner → done.length + rest.length ≤ m →
    ∃ owner', rest.foldl (stepF m) (some (owner, done.length)) = some (owner', done.length + rest.length) ∧ Own m (done ++ rest) owner'
  | [], done, owner, W, _ => ⟨owner, rfl, by simpa using W⟩
  | h :: rest, done, owner, W, hl => by
    simp only [List.length_cons] at hl
    obtain ⟨j, e, W1⟩ := own_next hm W (by omega) h
    obtain ⟨o2, f, W2⟩ := own_all hm rest (done ++ [h]) _ W1 (by simp; omega)
    refine ⟨o2, ?_, by simpa using W2⟩
    rw [List.foldl_cons, stepF_some e]
    simp only [List.length_append, List.length_cons, List.length_nil] at f
    rw [Nat.zero_add] at f
    rw [f, List.length_cons]
    congr 2
    omega
theorem laid_again (t : SetTable) {hs : Array Int} {wanted m : Nat} (hw : SetTable.sizeAbove wanted - 1 = m) (hm : Msk m) (hn : hs.size ≤ m) :
    ∃ t' order, t.relaid hs wanted = some (t', order) ∧ order.toList.Perm (List.range hs.size) ∧ Tb t' (order.toList.map fun i => hs.getD i 0) ∧ t'.mask = m ∧ t'.led = t.led ∧ t'.plain = t.plain := by
  obtain ⟨owner, f, W⟩ := own_all hm hs.toList [] _ (Own.init m) (by simpa using hn)
  rw [List.nil_append] at W
  have lay : SetTable.layClean m hs = some owner := by
    rw [layClean_eq]
    have f2 : hs.toList.foldl (stepF m) (some (Array.replicate (m + 1) none, 0)) = some (owner, 0 + hs.toList.length) := f
    rw [f2]
    rfl
  have mem := fun j k => mem_live (m := m) (owner := owner) W.sz (j := j) (k := k)
  obtain ⟨ris, inn⟩ := ris_live (fun j => owner.getD j none) (List.range (m + 1)) (by unfold Ris; exact List.pairwise_lt_range)
  have ris : Ris ((liveOf m owner).map (·.1)) := ris
  have cnt : (liveOf m owner).length = hs.size := by
    obtain ⟨ps, lp, ip⟩ := W.ps
    have nd : ((liveOf m owner).map (·.1)).Nodup := List.Pairwise.imp (fun {a b} (h : a < b) => Nat.ne_of_lt h) ris
    have a := nat_nodup_len _ ps nd fun x hx => by
      obtain ⟨⟨y, k⟩, hq, rfl⟩ := List.mem_map.mp hx
      obtain ⟨b1, b2⟩ := (mem y k).mp hq
      exact ip y b1 (by rw [b2]; simp)
    have b := nat_nodup_len (List.range hs.size) ((liveOf m owner).map (·.2)) List.nodup_range fun k hk => by
      obtain ⟨j, b1, b2⟩ := W.all k (by simpa using List.mem_range.mp hk)
      exact List.mem_map.mpr ⟨(j, k), (mem j k).mpr ⟨b1, b2⟩, rfl⟩
    simp only [List.length_map, List.length_range] at a b
    have : hs.toList.length = hs.size := Array.length_toList
    omega
  refine ⟨tabOf t m owner, ((liveOf m owner).map (·.2)).toArray, by rw [relaid_eq, hw, lay]; rfl, ?_, ⟨ris, rfl, ?_, hm, fun x hx => Nat.le_of_lt_succ (List.mem_range.mp (inn x hx)), fun i h j e1 e2 => ?_⟩, rfl, rfl, rfl⟩
  · refine perm_range hs.size _ (by simp [cnt]) fun k hk => ?_
    obtain ⟨j, b1, b2⟩ := W.all k (by simpa using hk)
    exact List.mem_map.mpr ⟨(j, k), (mem j k).mpr ⟨b1, b2⟩, rfl⟩
  · show ((liveOf m owner).map (·.1)).length = (((liveOf m owner).map (·.2)).map _).length
    simp
  · have e1 : (((liveOf m owner).map (·.2)).map fun i => hs.getD i 0)[i]? = some h := e1
    have e2 : ((liveOf m owner).map (·.1))[i]? = some j := e2
    rw [List.getElem?_map, List.getElem?_map] at e1
    rw [List.getElem?_map] at e2
    cases hq : (liveOf m owner)[i]? with
    | none => rw [hq] at e2; cases e2
    | some q =>
      obtain ⟨y, k⟩ := q
      rw [hq] at e1 e2
      cases Option.some.inj e2
      obtain ⟨b1, b2⟩ := (mem y k).mp (List.mem_of_getElem? hq)
      obtain ⟨h0, K, a1, a2, a3⟩ := W.at_ y k b1 b2
      have eh : h = h0 := by
        have z : hs.getD k 0 = h := Option.some.inj e1
        have z2 : hs[k]? = some h0 := by rw [← Array.getElem?_toList]; exact a1
        rw [← z, Array.getD_eq_getD_getElem?, z2]
        rfl
      subst eh
      refine ⟨K, a2, fun c hc => ?_⟩
      show way m h c ∈ (liveOf m owner).map (·.1)
      cases z : oAt owner (way m h c) with
      | none => exact absurd z (a3 c hc)
      | some k2 => exact List.mem_map.mpr ⟨(way m h c, k2), (mem _ _).mpr ⟨wayLe _ _ _, z⟩, rfl⟩
end MW

set_option Elab.async false
set_option linter.all false
set_option maxRecDepth 100000
set_option maxHeartbeats 2000000
namespace MW
open PySem PySem.Spec PyProof.Rows L2
/-! ### a set of tuples, as it stands -/
structure Tr (P : Program) (w : World) (h : Heap) (a : Addr) (L : List (Addr × List Int)) (es : Array (Int × Value)) (ep : Nat) (t : SetTable) : Prop where
  ob : ∃ o, h.get? a = some o ∧ o.ExactSet ∧ o.data = .set es ep t
  rows : es.toList = rowsOf P w L
  tab : Tb t (L.map fun p => thash P w p.2)
  nd : (L.map (·.2)).Nodup
  tup : ∀ p ∈ L, IsT P w h p.2 p.1
  pln : t.plain = true
  led : w.params.followText "set-order" = true ∨ t.led = true
  room : L.length * 5 < t.mask * 3
theorem mask_ok {m : Nat} (h : Msk m) : m % 2 = 1 ∧ m ≤ 511 := by
  unfold Msk MaskOk at h
  omega
section
variable {P : Program} {w : World} {A : Around} {E : Value → Shared → Prop} {s : Shared} {a : Addr} {L : List (Addr × List Int)} {es : Array (Int × Value)} {ep : Nat} {t : SetTable}
theorem Tr.cnt {h : Heap} (R : Tr P w h a L es ep t) : es.size = L.length := by
  have z := congrArg List.length R.rows
  simpa [rowsOf] using z
theorem Tr.pls {h : Heap} (R : Tr P w h a L es ep t) : t.place.size = L.length := by
  have z := R.tab.len
  simpa using z
theorem Tr.fit {h : Heap} (R : Tr P w h a L es ep t) : t.fits es.size = true := by
  have z := R.room
  simp only [SetTable.fits, SetTable.fill, R.tab.dm, R.cnt, R.pls, Bool.and_eq_true, beq_iff_eq, decide_eq_true_eq]
  exact ⟨trivial, by show L.length + 0 ≤ _; omega⟩
theorem Tr.ent {h : Heap} (R : Tr P w h a L es ep t) {i : Nat} {p : Addr × List Int} (e : L[i]? = some p) : es[i]? = some (thash P w p.2, Value.ref p.1) := by
  have z : es.toList[i]? = some (thash P w p.2, Value.ref p.1) := by rw [R.rows]; simp [rowsOf, e]
  simpa using z
theorem Tr.no {h : Heap} (R : Tr P w h a L es ep t) : ¬ t.gaveWay = true := by
  unfold SetTable.gaveWay
  rw [(mask_ok R.tab.msk).1]
  decide
theorem dummy_no (m : Nat) : ∀ (n : Nat) (p : SetTable.Probe), p.dummy = none → (nth m p n).dummy = none
  | 0, _, h => h
  | n + 1, p, h => dummy_no m n (adv m p) (by unfold adv; split <;> exact h)
/-- the search, c steps of the way behind it -/
theorem seek (R : Tr P w s.heap a L es ep t) {x : Addr} {k : List Int} (hx : IsT P w s.heap k x) (hu : A.units < cLine) {K : Nat} (hf : K < 10 * SetTable.turns t.mask)
    (hK : way t.mask (thash P w k) K ∉ t.place.toList) (hb : ∀ c, c < K → way t.mask (thash P w k) c ∈ t.place.toList) {Q : SetFound → Shared → Prop}
    (yes : k ∈ L.map (·.2) → Q (.there none) s) (no : k ∉ L.map (·.2) → Q (.free (way t.mask (thash P w k) K) false) s) (f : Nat) :
    ∀ (c : Nat) (st : Option SetTable.Probe), st.getD (t.probeStart (thash P w k)) = nth t.mask (t.probeStart (thash P w k)) c → c ≤ K → K < c + f →
      (∀ (i : Nat) p, L[i]? = some p → p.2 = k → ∃ d, c ≤ d ∧ d < K ∧ t.place.toList[i]? = some (way t.mask (thash P w k) d)) →
      wpAny (model P w) A (setSearchFrom a (.ref x) (thash P w k) true f st) Q E s := by
  induction f with
  | zero => exact fun c st _ h1 h2 => absurd h2 (by omega)
  | succ f ih =>
    intro c st hst hc hlt hall
    obtain ⟨o, ho, _, hd⟩ := R.ob
    have go := go_spec t R.tab.up R.tab.dm (fun i => (es[i]?.map (·.1)).getD 0) (thash P w k) (10 * SetTable.turns t.mask) (K - c) (nth t.mask (t.probeStart (thash P w k)) c) (dummy_no _ _ _ rfl) (by omega)
      (fun q hq => by rw [← nth_add]; exact hb (c + q) (by omega)) (by rw [← nth_add, show c + (K - c) = K by omega]; exact hK)
    simp only [← nth_add] at go
    have hsh : ∀ (i : Nat) p, L[i]? = some p → (es[i]?.map (·.1)).getD 0 = thash P w p.2 := fun i p e => by rw [R.ent e]; rfl
    rw [setSearchFrom_succ]
    refine wpAny_bind (wpAny_setState_of ho hd R.fit ?_)
    dsimp only
    refine wp_if_neg R.no ?_
    try refine wpAny_bind (wpAny_pure ?_)
    rw [hst]
    rcases go with ⟨q, i, hq, hi, hh, hn, hpr⟩ | ⟨hn, hpr⟩
    · rw [show t.probe (fun i => (es[i]?.map (·.1)).getD 0) (thash P w k) (nth t.mask (t.probeStart (thash P w k)) c) = _ from hpr]
      dsimp only
      have hi : t.place.toList[i]? = some (way t.mask (thash P w k) (c + q)) := hi
      have lt : i < L.length := by
        have z := (List.getElem?_eq_some_iff.mp hi).1
        have z2 := R.pls
        simp only [Array.length_toList] at z
        omega
      obtain ⟨p, hp⟩ : ∃ p, L[i]? = some p := ⟨_, List.getElem?_eq_getElem lt⟩
      have pm := List.mem_of_getElem? hp
      have rest : wpAny (model P w) A (searchRest a (.ref x) (thash P w k) true f es t (way t.mask (thash P w k) (c + q)) i (nth t.mask (t.probeStart (thash P w k)) (c + (q + 1)))) Q E s := by
        unfold searchRest
        rw [R.ent hp]
        dsimp only
        refine wpAny_bind (wpAny_holding (wpAny_eqBool_tuple hu (R.tup p pm) hx ?_))
        refine wpAny_bind (wpAny_setState_of ho hd R.fit ?_)
        dsimp only
        by_cases same : p.2 = k
        · exact wp_if_pos (by simp [same]) (wpAny_pure (yes (List.mem_map.mpr ⟨p, pm, same⟩)))
        refine wp_if_neg (by simp [same]) ?_
        try refine wpAny_bind (wpAny_pure ?_)
        rw [sameMem]
        dsimp only
        have live := slot_live R.tab.up hi
        simp only [if_true, live, R.ent hp]
        refine wpAny_bind (wpAny_isSame_ref_self (wpAny_bind (wpAny_pure ?_)))
        simp only [if_true]
        refine wp_if_neg (by simp [same]) ?_
        refine ih (c + (q + 1)) _ rfl (by omega) (by omega) fun i0 p0 h0 k0 => ?_
        obtain ⟨d, d1, d2, d3⟩ := hall i0 p0 h0 k0
        refine ⟨d, ?_, d2, d3⟩
        by_cases l1 : d < c + q
        · have z := hn (d - c) i0 (by omega) (by show _ = some (way t.mask (thash P w k) (c + (d - c))); rw [show c + (d - c) = d by omega]; exact d3)
          exact absurd ((hsh i0 p0 h0).trans (congrArg (thash P w) k0)) z
        · by_cases l2 : d = c + q
          · rw [l2] at d3
            have z := slot_live R.tab.up d3
            rw [live] at z
            injection z with z
            rw [← z, hp] at h0
            cases h0
            exact absurd k0 same
          · omega
      by_cases led : t.led = true
      · refine wp_if_neg (by simp [led]) ?_
        try refine wpAny_bind (wpAny_pure ?_)
        exact rest
      · refine wp_if_pos (by simp [led]) ?_
        refine wpAny_bind (seen_tup hx (fun y hy => ?_) ?_)
        · obtain ⟨e, he, rfl⟩ := List.mem_map.mp hy
          have hm : e ∈ es.toList := by
            have z : e ∈ es ∧ e.1 = thash P w k := by simpa using he
            simpa using z.1
          rw [R.rows] at hm
          obtain ⟨p2, hp2, rfl⟩ := List.mem_map.mp hm
          exact ⟨p2.2, p2.1, rfl, R.tup p2 hp2⟩
        · refine wp_if_neg (by decide) ?_
          try refine wpAny_bind (wpAny_pure ?_)
          exact rest
    · rw [show t.probe (fun i => (es[i]?.map (·.1)).getD 0) (thash P w k) (nth t.mask (t.probeStart (thash P w k)) c) = _ from hpr]
      dsimp only
      rw [show c + (K - c) = K by omega]
      refine wpAny_pure (no fun hm => ?_)
      obtain ⟨p0, m0, k0⟩ := List.mem_map.mp hm
      obtain ⟨i0, l0, e0⟩ := List.getElem_of_mem m0
      have h0 : L[i0]? = some p0 := by rw [List.getElem?_eq_getElem l0, e0]
      obtain ⟨d, d1, d2, d3⟩ := hall i0 p0 h0 k0
      have z := hn (d - c) i0 (by omega) (by show _ = some (way t.mask (thash P w k) (c + (d - c))); rw [show c + (d - c) = d by omega]; exact d3)
      exact absurd ((hsh i0 p0 h0).trans (congrArg (thash P w) k0)) z
/-- what adding asks -/
theorem seek_all (R : Tr P w s.heap a L es ep t) {x : Addr} {k : List Int} (hx : IsT P w s.heap k x) (hu : A.units < cLine) {Q : SetFound → Shared → Prop} (yes : k ∈ L.map (·.2) → Q (.there none) s)
    (no : ∀ K, k ∉ L.map (·.2) → way t.mask (thash P w k) K ∉ t.place.toList → (∀ c, c < K → way t.mask (thash P w k) c ∈ t.place.toList) → Q (.free (way t.mask (thash P w k) K) false) s) :
    wpAny (model P w) A (setSearch a (.ref x) (thash P w k) true) Q E s := by
  have z := R.room
  obtain ⟨K, k1, k2, k3⟩ := R.tab.stop (by simp; omega) (thash P w k)
  have big : K < 0 + 100000 := by
    have := (mask_ok R.tab.msk).2
    unfold SetTable.turns at k1
    omega
  unfold setSearch
  refine seek R hx hu k1 k2 k3 yes (fun n => no K n k2 k3) 100000 0 none rfl (Nat.zero_le _) big fun i p hp hk => ?_
  have lt : i < t.place.toList.length := by
    have z1 := (List.getElem?_eq_some_iff.mp hp).1
    have z2 := R.pls
    simp only [Array.length_toList]
    omega
  obtain ⟨c, c1, c2⟩ := R.tab.ahead (i := i) k2 (by simp [hp, hk]) (List.getElem?_eq_getElem lt)
  exact ⟨c, Nat.zero_le _, c1, by rw [c2]; exact List.getElem?_eq_getElem lt⟩
/-! ### one more -/
theorem size_a : SetTable.sizeAbove (SetTable.grown 5) = 32 ∧ SetTable.sizeAbove (SetTable.grown 19) = 128 ∧ SetTable.sizeAbove (SetTable.grown 77) = 512 := by decide +kernel
/-- laid anew, wider -/
theorem widen {o : Obj} (ho : s.heap.get? a = some o) (hex : o.ExactSet) (hd : o.data = .set es ep t) (rows : es.toList = rowsOf P w L) (fit : t.fits es.size = true)
    (nd : (L.map (·.2)).Nodup) (tup : ∀ p ∈ L, IsT P w s.heap p.2 p.1) (pln : t.plain = true) (led : w.params.followText "set-order" = true ∨ t.led = true) {wanted m : Nat}
    (hw : SetTable.sizeAbove wanted = m + 1) (hm : Msk m) (hn : L.length * 5 < m * 3) {Q : Unit → Shared → Prop}
    (hQ : ∀ h' L' es' ep' t', Heap.SameBut a s.heap h' → Tr P w h' a L' es' ep' t' → L'.Perm L → Q () { s with heap := h' }) : wpAny (model P w) A (setRelay a wanted) Q E s := by
  have cnt : es.size = L.length := by simpa [rowsOf] using congrArg List.length rows
  have hm2 := (mask_ok hm).2
  obtain ⟨t2, order, e, pm, T, em, el, epl⟩ := laid_again t (hs := es.map (·.1)) (wanted := wanted) (m := m) (by omega) hm (by simp; omega)
  rw [Array.size_map, cnt] at pm
  obtain ⟨L2, r1, r2, r3⟩ := order_rows L es order rows pm
  rw [← r3] at T
  have c2 : (order.filterMap (es[·]?)).size = es.size := by
    have z := congrArg List.length r1
    simp only [rowsOf, Array.length_toList, List.length_map, r2.length_eq] at z
    omega
  rw [setRelay_eq]
  refine wpAny_bind (wpAny_setState_of ho hd fit ?_)
  dsimp only
  refine wp_if_neg (by rw [sizeLine_eq, hw]; omega) ?_
  try refine wpAny_bind (wpAny_pure ?_)
  rw [e]
  dsimp only
  refine wpAny_bind ?_
  refine wp_if_neg (by simp [c2]) ?_
  try refine wpAny_bind (wpAny_pure ?_)
  refine wpAny_pure ?_
  dsimp only
  refine wpAny_storeSet_of ho hd ?_ (by rw [c2, cnt, sizeLine_eq]; omega)
  have sb : Heap.SameBut a s.heap (s.heap.update a (Obj.putSet (order.filterMap (es[·]?)) t2)) := Heap.SameBut.update ..
  exact hQ _ L2 _ (ep + 1) t2 sb ⟨⟨_, store_at ho hd, ⟨hex.1, hex.2.1, hex.2.2⟩, rfl⟩, r1, T, (r2.map (·.2)).nodup_iff.mpr nd, fun p hp => isT_same (tup p (r2.mem_iff.mp hp)) ho hd sb, epl.trans pln, by rw [el]; exact led, by rw [r2.length_eq, em]; exact hn⟩ r2
/-- put in -/
theorem put_in (R : Tr P w s.heap a L es ep t) {x : Addr} {k : List Int} (hx : IsT P w s.heap k x) (hu : A.units < cLine) (few : L.length < 300) {Q : Bool → Shared → Prop}
    (hQ : ∀ b h' L' es' ep' t', Heap.SameBut a s.heap h' → Tr P w h' a L' es' ep' t' → (k ∈ L.map (·.2) → L' = L) → (k ∉ L.map (·.2) → L'.Perm ((x, k) :: L)) → Q b { s with heap := h' }) :
    wpAny (model P w) A (setAddHashed a (.ref x) (thash P w k)) Q E s := by
  obtain ⟨o, ho, hex, hd⟩ := R.ob
  have cnt := R.cnt
  have room := R.room
  unfold setAddHashed
  refine wpAny_holding ?_
  rw [show (100000 : Nat) = 99999 + 1 from rfl, setAddHashedIn_succ]
  refine wpAny_bind (wpAny_setState_of ho hd R.fit ?_)
  dsimp only
  refine wp_if_neg (by simp [byScan, Value.scannable]) ?_
  try refine wpAny_bind (wpAny_pure ?_)
  refine wpAny_bind (seek_all R hx hu (fun hm => wpAny_pure (hQ false s.heap L es ep t (Heap.SameBut.refl a s.heap) R (fun _ => rfl) fun z => absurd hm z)) fun K new hK hb => ?_)
  dsimp only
  refine wpAny_bind (wpAny_setState_of ho hd R.fit ?_)
  dsimp only
  obtain ⟨p, hp⟩ : ∃ p, p = SetTable.below t.place (way t.mask (thash P w k) K) := ⟨_, rfl⟩
  obtain ⟨le, T⟩ := R.tab.more hK hb hp
  have e2 : (t.put (way t.mask (thash P w k) K)).2 = p := hp.symm
  have q1 : (t.put (way t.mask (thash P w k) K)).1.mask = t.mask := rfl
  have q2 : (t.put (way t.mask (thash P w k) K)).1.plain = true := R.pln
  have q3 : w.params.followText "set-order" = true ∨ (t.put (way t.mask (thash P w k) K)).1.led = true := R.led
  generalize t.put (way t.mask (thash P w k) K) = pt at T e2 q1 q2 q3 ⊢
  obtain ⟨t1, p1⟩ := pt
  dsimp only at T e2 q1 q2 q3 ⊢
  subst e2
  first
    | (refine wpAny_bind ?_; refine wp_if_pos q2 ?_; refine hashBy_tup hx ?_)
    | refine wp_if_pos q2 (wpAny_bind (hashBy_tup hx ?_))
  simp only [if_true]
  have rows1 : (SetTable.insertAt es p1 (thash P w k, Value.ref x)).toList = rowsOf P w (L.take p1 ++ (x, k) :: L.drop p1) := by rw [SetTable.toList_insertAt, rows_put, R.rows]
  have pm := put_perm L p1 (x, k)
  rw [show (L.map fun p => thash P w p.2).take p1 ++ thash P w k :: (L.map fun p => thash P w p.2).drop p1 = (L.take p1 ++ (x, k) :: L.drop p1).map (fun p => thash P w p.2) by simp] at T
  generalize L.take p1 ++ (x, k) :: L.drop p1 = L1 at rows1 pm T
  have n1 : L1.length = L.length + 1 := by rw [pm.length_eq]; rfl
  have c1 : (SetTable.insertAt es p1 (thash P w k, Value.ref x)).size = L.length + 1 := by
    have z := congrArg List.length rows1
    simp only [rowsOf, Array.length_toList, List.length_map] at z
    omega
  generalize SetTable.insertAt es p1 (thash P w k, Value.ref x) = es1 at rows1 c1 ⊢
  have nd1 : (L1.map (·.2)).Nodup := (pm.map (·.2)).nodup_iff.mpr (List.nodup_cons.mpr ⟨new, R.nd⟩)
  have pl1 : t1.place.size = L.length + 1 := by
    have z := T.len
    simp only [Array.length_toList, List.length_map] at z
    omega
  refine wpAny_bind (wpAny_storeSet_of ho hd ?_ (by rw [c1, sizeLine_eq]; omega))
  have sb : Heap.SameBut a s.heap (s.heap.update a (Obj.putSet es1 t1)) := Heap.SameBut.update ..
  have ho1 := store_at (es' := es1) (t' := t1) ho hd
  generalize s.heap.update a (Obj.putSet es1 t1) = h1 at sb ho1 ⊢
  have tup1 : ∀ p ∈ L1, IsT P w h1 p.2 p.1 := fun p hp => by
    rcases List.mem_cons.mp (pm.mem_iff.mp hp) with rfl | hp
    · exact isT_same hx ho hd sb
    · exact isT_same (R.tup p hp) ho hd sb
  have full : t1.tooFull = decide ((L.length + 1) * 5 ≥ t.mask * 3) := by
    simp only [SetTable.tooFull, SetTable.fill, T.dm, pl1, q1]
    rfl
  by_cases hf : (L.length + 1) * 5 ≥ t.mask * 3
  · have hf' : t1.tooFull = true := by rw [full]; exact decide_eq_true hf
    first
      | (refine wpAny_bind ?_; refine wp_if_pos (by simp [hf']) ?_)
      | (refine wp_if_pos (by simp [hf']) ?_; refine wpAny_bind ?_)
    have fit1 : t1.fits es1.size = true := by
      have := R.tab.msk
      unfold Msk MaskOk at this
      simp only [SetTable.fits, SetTable.fill, T.dm, pl1, c1, q1, Bool.and_eq_true, beq_iff_eq, decide_eq_true_eq]
      exact ⟨trivial, by show L.length + 1 + 0 ≤ _; omega⟩
    have go : ∀ m, SetTable.sizeAbove (SetTable.grown (es.size + 1)) = m + 1 → Msk m → L1.length * 5 < m * 3 → wpAny (model P w) A (setRelay a (SetTable.grown (es.size + 1))) (fun _ s' => wpAny (model P w) A (pure true) Q E s') E { s with heap := h1 } := fun m hw hm hn =>
      widen (s := { s with heap := h1 }) ho1 ⟨hex.1, hex.2.1, hex.2.2⟩ rfl rows1 fit1 nd1 tup1 q2 q3 hw hm hn fun h2 L2 es2 ep2 t2 sb2 R2 pm2 => wpAny_pure (hQ true h2 L2 es2 ep2 t2 (sb.trans sb2) R2 (fun z => absurd z new) fun _ => pm2.trans pm)
    have three : (t.mask = 7 ∧ L.length = 4) ∨ (t.mask = 31 ∧ L.length = 18) ∨ (t.mask = 127 ∧ L.length = 76) := by
      have := R.tab.msk
      unfold Msk MaskOk at this
      omega
    rcases three with ⟨_, e⟩ | ⟨_, e⟩ | ⟨_, e⟩
    · exact go 31 (by rw [cnt, e]; exact size_a.1) (.inl (.inr (.inl rfl))) (by omega)
    · exact go 127 (by rw [cnt, e]; exact size_a.2.1) (.inl (.inr (.inr rfl))) (by omega)
    · exact go 511 (by rw [cnt, e]; exact size_a.2.2) (.inr rfl) (by omega)
  · have hf' : ¬ t1.tooFull = true := by rw [full]; simpa using hf
    first
      | refine wp_if_neg (by simp [hf']) ?_
      | (refine wpAny_bind ?_; refine wp_if_neg (by simp [hf']) ?_; refine wpAny_pure ?_)
    exact wpAny_pure (hQ true h1 L1 es1 (ep + 1) t1 sb ⟨⟨_, ho1, ⟨hex.1, hex.2.1, hex.2.2⟩, rfl⟩, rows1, T, nd1, tup1, q2, q3, by rw [n1, q1]; omega⟩ (fun z => absurd z new) fun _ => pm)
end
end MW

set_option Elab.async false
set_option linter.all false
set_option maxRecDepth 100000
set_option maxHeartbeats 3200000
namespace MW
open PySem PySem.Spec PyProof.Rows L2
theorem Tr.keep {P : Program} {w : World} {h h' : Heap} {a : Addr} {L : List (Addr × List Int)} {es : Array (Int × Value)} {ep : Nat} {t : SetTable} (R : Tr P w h a L es ep t) (ha : ∀ o, h.get? a = some o → h'.get? a = some o) (ht : ∀ p ∈ L, IsT P w h' p.2 p.1) : Tr P w h' a L es ep t :=
  let ⟨o, ho, r⟩ := R.ob
  ⟨⟨o, ha o ho, r⟩, R.rows, R.tab, R.nd, ht, R.pln, R.led, R.room⟩
/-- the set at S after the first i of ks; h0's objects stand -/
def Upto (P : Program) (w : World) (h0 : Heap) (S : Addr) (ks : List (Addr × List Int)) (i : Nat) (h : Heap) : Prop :=
  (∀ b o, h0.get? b = some o → h.get? b = some o) ∧ ∃ L es ep t, Tr P w h S L es ep t ∧ Got ks i L
abbrev emptySet (w : World) : Obj := { cls := .type "set", dict := none, data := .set #[] 0 (.fresh 0 0 (!w.params.followText "set-order")) }
section
variable {P : Program} {w : World} {A : Around} {E : Value → Shared → Prop} {s : Shared}
theorem Upto.zero {h0 h : Heap} {S : Addr} {ks : List (Addr × List Int)} (hk : ∀ b o, h0.get? b = some o → h.get? b = some o) (ho : h.get? S = some (emptySet w)) : Upto P w h0 S ks 0 h := by
  refine ⟨hk, [], #[], 0, _, ⟨⟨_, ho, ⟨rfl, rfl, rfl⟩, rfl⟩, rfl, ⟨List.Pairwise.nil, rfl, rfl, .inl (.inl rfl), (fun _ z => nomatch z), (fun i h j z => by simp at z)⟩, List.nodup_nil, (fun _ z => nomatch z), rfl, ?_, by show 0 * 5 < 7 * 3; decide⟩, Got.zero ks⟩
  cases e : w.params.followText "set-order"
  · exact .inr (by simp [SetTable.fresh, e])
  · exact .inl rfl
theorem Upto.moved {h0 h h' : Heap} {S : Addr} {ks : List (Addr × List Int)} {i : Nat} (U : Upto P w h0 S ks i h) (ht : ∀ p ∈ ks, IsT P w h0 p.2 p.1) (h1 : ∀ o, h.get? S = some o → h'.get? S = some o) (h2 : ∀ b o, h0.get? b = some o → h'.get? b = some o) : Upto P w h0 S ks i h' := by
  obtain ⟨_, L, es, ep, t, R, g⟩ := U
  exact ⟨h2, L, es, ep, t, R.keep h1 fun p hp => isT_keep (ht p (List.mem_of_mem_take (g.sub p hp))) h2, g⟩
theorem Upto.step {h0 : Heap} {S : Addr} {ks : List (Addr × List Int)} {i : Nat} {p : Addr × List Int} (U : Upto P w h0 S ks i s.heap) (ht : ∀ p ∈ ks, IsT P w h0 p.2 p.1) (hS : h0.get? S = none) (hp : ks[i]? = some p) (hi : i < 300) (hu : A.units < cLine) {Q : Bool → Shared → Prop}
    (hQ : ∀ b h' tk, s.toks ≤ tk → Heap.SameBut S s.heap h' → Upto P w h0 S ks (i + 1) h' → Q b { s with heap := h', toks := tk }) : wpAny (model P w) A (holding [Value.ref p.1] (setAdd S (.ref p.1))) Q E s := by
  obtain ⟨keep, L, es, ep, t, R, g⟩ := U
  have hx : IsT P w s.heap p.2 p.1 := isT_keep (ht p (List.mem_of_getElem? hp)) keep
  refine wpAny_holding ?_
  unfold setAdd
  refine wpAny_holding (wpAny_bind (wpAny_pyHash_tuple hu hx ?_))
  refine put_in (s := { s with toks := s.toks + (p.2.length + 1) }) R hx hu (Nat.lt_of_le_of_lt g.len hi) fun b h' L' es' ep' t' sb R' c1 c2 => ?_
  refine hQ b h' _ (Nat.le_add_right _ _) sb ⟨fun c o e => (sb.2 c fun z => ?_).trans (keep c o e), L', es', ep', t', R', ?_⟩
  · rw [z, hS] at e
    cases e
  · by_cases c : p.2 ∈ L.map (·.2)
    · rw [c1 c]; exact g.same hp c
    · exact g.more hp (c2 c)
/-- the loop of set.update, by what the set has got -/
theorem upd_loop {I : Addr} {fp wr : List Addr} {G : Array GenState → Array GenState → Prop} {n : Nat} {Pv : Nat → Value → Prop} {St : Nat → Shared → Prop} {R : Result → Shared → Prop}
    (W : WalksS P w A.in1 I fp wr G n Pv St) {S : Addr} (hSf : S ∉ fp) {ks : List (Addr × List Int)} (hn : n = ks.length) (few : ks.length < 300) (hval : ∀ i v, Pv i v → ∃ p, ks[i]? = some p ∧ v = .ref p.1)
    {h0 : Heap} (ht : ∀ p ∈ ks, IsT P w h0 p.2 p.1) (hS0 : h0.get? S = none) (hw0 : ∀ b ∈ wr, h0.get? b = none) (hu : A.in1.units < cLine) (k : Nat) :
    ∀ (i : Nat) (s : Shared), i + k = n → St i s → Upto P w h0 S ks i s.heap → (∀ s', Moved (S :: wr) G s s' → Upto P w h0 S ks n s'.heap → R (.ok (.ret .none)) s') →
      codeAny (model P w) A (.builtin "set.update.loop" ⟨[.ref S, .ref I], []⟩) R s := by
  have hSw : S ∉ wr := fun h => hSf (W.sub _ h)
  have up : ∀ {i : Nat} {s s' : Shared}, Moved wr G s s' → Upto P w h0 S ks i s.heap → Upto P w h0 S ks i s'.heap := fun hm U =>
    U.moved ht (fun o e => hm.heap S o hSw e) fun b o e => hm.heap b o (fun hb => by rw [hw0 b hb] at e; cases e) (U.1 b o e)
  induction k with
  | zero =>
    intro i s hi hst U hR
    have e : i = n := by omega
    subst e
    refine codeAny_builtin F.entry_set_update_loop ?_
    rw [Around.under_plainId F.plain_set_update_loop]
    refine wpAny_bind (m := pyNext (.ref I)) (W.done s _ _ hst fun s' hm => ?_)
    exact wpAny_pure (hR s' (hm.mono fun b hb => List.mem_cons_of_mem _ hb) (up hm U))
  | succ k ih =>
    intro i s hi hst U hR
    refine codeAny_builtin F.entry_set_update_loop ?_
    rw [Around.under_plainId F.plain_set_update_loop]
    refine wpAny_bind (m := pyNext (.ref I)) (W.item i s _ _ (by omega) hst fun v s' hP hst' hm => ?_)
    obtain ⟨p, hp, rfl⟩ := hval i v hP
    refine wpAny_bind (m := holding [Value.ref p.1] (setAdd S (.ref p.1))) ((up hm U).step ht hS0 hp (by omega) hu fun b h' tk htk sb U' => ?_)
    refine wpAny_pure ⟨plainId_quiet F.plain_set_update_loop _, ih (i + 1) _ (by omega) (W.frame _ s' h' tk hst' htk fun b hb o e => ?_) U' fun s2 hm2 U2 => hR s2 (Moved.trans W.gtrans ((hm.mono fun b hb => List.mem_cons_of_mem _ hb).then_heap htk fun b o hb e => ?_) hm2) U2⟩
    · exact (sb.2 b fun z => hSf (z ▸ hb)).trans e
    · exact (sb.2 b fun z => hb (by rw [z]; simp)).trans e
theorem no_get {h : Heap} {b : Addr} (hb : h.objs.size ≤ b) : h.get? b = none := by
  cases e : h.get? b with
  | none => rfl
  | some o => exact absurd (Heap.lt_size e) (Nat.not_lt.mpr hb)
set_option maxRecDepth 100000 in
/-- set(xs), xs a list of tuples of ints -/
theorem set_call {l : Addr} {items : Array Value} {ks : List (Addr × List Int)} {Q : Value → Shared → Prop} (hh : A.handled = none) (hl : s.heap.IsList l items) (hit : items.toList = ks.map fun p => Value.ref p.1)
    (ht : ∀ p ∈ ks, IsT P w s.heap p.2 p.1) (few : ks.length < 300) (hu : A.units + 3 < cLine)
    (hQ : ∀ (h' : Heap) (tk : Nat), Upto P w s.heap s.heap.objs.size ks ks.length h' → Q (.ref s.heap.objs.size) { s with heap := h', toks := tk }) : wpAny (model P w) A (call (.type "set") [.ref l]) Q E s := by
  have cnt : items.size = ks.length := by simpa using congrArg List.length hit
  obtain ⟨c, tl, hmro⟩ := F.called_set.mro
  have m1 := F.called_set.made
  have m2 := F.called_set.sub
  refine wpAny_call (codeAny_of_tree ?_)
  show wpAny _ _ (callAny (.type "set") _) _ _ _
  refine wpAny_pure ⟨Code.quiet_builtin _ (by decide +kernel), codeAny_builtin F.entry_type_call ?_⟩
  rw [Around.under_plain (weight_type_call_type "set" [.ref l] []) rfl]
  have m3 := F.called_set.notType
  have m4 := F.called_set.canCreate
  have m5 := F.typeCall_set_1 (.ref l)
  repeat (any_goals (first | assumption | wp_step))
  refine codeAny_mono (code_set_led1 (.ref l) (E := E) (Q₁ := fun v s1 => v = .ref s.heap.objs.size ∧ s1 = { s with heap := s.heap.push (emptySet w) }) ⟨rfl, rfl⟩) fun r s1 hr => ?_
  cases r with
  | error e => exact hr
  | ok fl =>
    cases fl with
    | ret v =>
      obtain ⟨rfl, rfl⟩ := hr
      have here : (s.heap.push (emptySet w)).get? s.heap.objs.size = some (emptySet w) := Heap.get?_push_size _ rfl
      have hT : Shared.TypeIs { s with heap := s.heap.push (emptySet w) } (.ref s.heap.objs.size) "set" := ⟨_, here, rfl⟩
      have m6 := F.called_set.init.lookup
      have m7 := F.called_set.init.bind (.ref s.heap.objs.size)
      repeat (any_goals (first | assumption | wp_step))
      refine codeAny_mono (codeAny_call_builtin (R := wants (fun r s2 => r = .none ∧ ∃ h' tk, s2 = { s with heap := h', toks := tk } ∧ Upto P w s.heap s.heap.objs.size ks ks.length h') E) F.called_set.init.plain F.entry_set_init (check_set_init_1 hT ?_)) fun r2 s2 hr2 => ?_
      · obtain ⟨⟨ocls, odict, odata, oslots⟩, hol, hcl, nl, hdl⟩ := hl
        simp only at hcl hdl
        subst hcl hdl
        have hol1 : (s.heap.push (emptySet w)).get? l = some { cls := .type "list", dict := odict, data := .seq items nl, slots := oslots } := Heap.get?_push_of_some _ hol
        have m8 := F.sub_list_set
        have m9 := F.sub_list_frozenset
        have m10 : (Value.type "list" == Value.type "dict") = false := by decide
        have hl1 : (s.heap.push (emptySet w)).IsList l items := ⟨_, hol1, rfl, nl, rfl⟩
        have llt : l < s.heap.objs.size := Heap.lt_size hol
        have psz : (s.heap.push (emptySet w)).objs.size = s.heap.objs.size + 1 := Heap.size_push ..
        unfold Builtin.«set.__init__» noKeywords Builtin.Frozenset.updateFrom
        generalize hPI : pyIter = PI
        wp_walk
        subst hPI
        refine wpAny_pyIter_list hl1 (wpAny_bind (wpAny_runValue ?_))
        have h3 : A.in1.in1.in1.handled = none := by simp [hh]
        refine upd_loop (h0 := s.heap) ((Walks.list h3 _ l (by rw [psz]; exact Nat.ne_of_lt (Nat.lt_succ_of_lt llt)) items).toS) (S := s.heap.objs.size) (by rw [psz]; simp only [List.mem_cons, List.not_mem_nil, or_false, not_or]; exact ⟨Nat.ne_of_lt (Nat.lt_succ_self _), Nat.ne_of_gt llt⟩) cnt few (fun i v hv => ?_) ht (no_get (Nat.le_refl _)) (fun b hb => no_get ?_) hu items.size 0 _ (Nat.zero_add _)
          ⟨⟨_, Heap.get?_push_size _ rfl, rfl, rfl⟩, hl1.push _⟩ (Upto.zero (fun b o e => Heap.get?_push_of_some _ (Heap.get?_push_of_some _ e)) (Heap.get?_push_of_some _ here)) fun s' hm U => ?_
        · have q : items.toList[i]? = some v := by rw [Array.getElem?_toList]; exact hv
          rw [hit, List.getElem?_map] at q
          obtain ⟨p, e1, e2⟩ := Option.map_eq_some_iff.mp q
          exact ⟨p, e1, e2.symm⟩
        · rw [List.mem_singleton.mp hb, psz]
          exact Nat.le_succ _
        · obtain ⟨h', g2, d', tk', os'⟩ := s'
          have e1 : g2 = s.gens := hm.gens
          have e2 : d' = s.drawn := hm.drawn
          have e3 : os' = s.os := hm.os
          subst e1 e2 e3
          show wpAny _ _ _ _ _ _
          refine wpAny_pure ?_
          show wpAny _ _ (ret Value.none) _ _ _
          rw [cnt] at U
          exact wpAny_pure ⟨rfl, h', tk', rfl, U⟩
      · cases r2 with
        | error e => exact hr2
        | ok fl2 =>
          cases fl2 with
          | ret r =>
            obtain ⟨rfl, h', tk, rfl, U⟩ := hr2
            repeat (any_goals (first | assumption | wp_step))
            exact hQ _ _ U
          | _ => exact hr2.elim
    | _ => exact hr.elim
end
end MW

set_option Elab.async false
set_option linter.all false
set_option maxRecDepth 100000
set_option maxHeartbeats 2000000
namespace MW
open PySem PySem.Spec PyProof.Rows L2

/-! ### two heaps: G holds what stands for good, H all that is tracked -/
structure Sit where
  G : Hp
  H : Hp
  sub : Same G H
  tup : ∀ q xs, H q = some (.tup xs) → G q = some (.tup xs)

/-- H grows, and G grows by what is new alone -/
def Le (S T : Sit) : Prop := Same S.G T.G ∧ Same S.H T.H ∧ ∀ a o, S.H a = some o → T.G a = S.G a
theorem Le.refl (S : Sit) : Le S S := ⟨Same.refl _, Same.refl _, fun _ _ _ => rfl⟩
theorem Le.trans {S T U : Sit} (a : Le S T) (b : Le T U) : Le S U :=
  ⟨a.1.trans b.1, a.2.1.trans b.2.1, fun x o h => (b.2.2 x o (a.2.1 x o h)).trans (a.2.2 x o h)⟩
theorem Le.g {S T : Sit} (a : Le S T) : Same S.G T.G := a.1

theorem same_new {H : Hp} {p : Addr} {o : HO} (h : H p = none) : Same H (upd H p o) := fun b u e => by
  rw [upd_ne (ne_of_none e h)]; exact e
theorem same_mut {G H : Hp} {p : Addr} {o : HO} (e : Same G H) (h : G p = none) : Same G (upd H p o) := fun b u q => by
  rw [upd_ne (ne_of_none q h)]; exact e b u q
theorem Sit.gfree (S : Sit) {p : Addr} (h : S.H p = none) : S.G p = none := S.sub.free h

/-- a new thing that stands for good -/
def Sit.push (S : Sit) (p : Addr) (o : HO) (h : S.H p = none) : Sit := ⟨upd S.G p o, upd S.H p o, fun b u e => by
  by_cases q : b = p
  · subst q; rw [upd_same] at e ⊢; exact e
  · rw [upd_ne q] at e ⊢; exact S.sub b u e, fun b xs e => by
  by_cases q : b = p
  · subst q; rw [upd_same] at e ⊢; exact e
  · rw [upd_ne q] at e ⊢; exact S.tup b xs e⟩
theorem Sit.push_le (S : Sit) {p : Addr} {o : HO} (h : S.H p = none) : Le S (S.push p o h) :=
  ⟨same_new (S.gfree h), same_new h, fun a u e => by
    show upd S.G p o a = S.G a
    rw [upd_ne (ne_of_none e h)]⟩
/-- a new thing that will change -/
def Sit.pushM (S : Sit) (p : Addr) (o : HO) (h : S.H p = none) (ht : ∀ xs, o ≠ .tup xs := by intro _ z; exact HO.noConfusion z) : Sit := ⟨S.G, upd S.H p o, same_mut S.sub (S.gfree h), fun b xs e => by
  by_cases q : b = p
  · subst q; rw [upd_same] at e; exact absurd (Option.some.inj e) (ht xs)
  · rw [upd_ne q] at e; exact S.tup b xs e⟩
theorem Sit.pushM_le (S : Sit) {p : Addr} {o : HO} (h : S.H p = none) {ht : ∀ xs, o ≠ .tup xs} : Le S (S.pushM p o h ht) :=
  ⟨Same.refl _, same_new h, fun _ _ _ => rfl⟩
/-- a thing that may change is changed -/
def Sit.mut (S : Sit) (c : Addr) (o : HO) (h : S.G c = none) (ht : ∀ xs, o ≠ .tup xs := by intro _ z; exact HO.noConfusion z) : Sit := ⟨S.G, upd S.H c o, same_mut S.sub h, fun b xs e => by
  by_cases q : b = c
  · subst q; rw [upd_same] at e; exact absurd (Option.some.inj e) (ht xs)
  · rw [upd_ne q] at e; exact S.tup b xs e⟩
/-- from here on it stands for good -/
def Sit.freeze (S : Sit) (c : Addr) (o : HO) (h : S.H c = some o) : Sit := ⟨upd S.G c o, S.H, fun b u e => by
  by_cases q : b = c
  · subst q; rw [upd_same] at e; rw [h]; exact e
  · rw [upd_ne q] at e; exact S.sub b u e, fun b xs e => by
  by_cases q : b = c
  · subst q; rw [upd_same]; rw [h] at e; exact e
  · rw [upd_ne q]; exact S.tup b xs e⟩
theorem Sit.freeze_g (S : Sit) {c : Addr} {o : HO} (h : S.H c = some o) (hg : S.G c = none) : Same S.G (S.freeze c o h).G := same_new hg
/-- all of H that stands at a place outside of M stays -/
def Lm (M : List Addr) (S T : Sit) : Prop := Same S.G T.G ∧ (∀ a o, a ∉ M → S.H a = some o → T.H a = some o) ∧ ∀ a o, S.H a = some o → T.G a = S.G a
theorem Le.lm {S T : Sit} (h : Le S T) (M : List Addr) : Lm M S T := ⟨h.1, fun a o _ e => h.2.1 a o e, h.2.2⟩
theorem Lm.g {M : List Addr} {S T : Sit} (h : Lm M S T) : Same S.G T.G := h.1

/-! ### data -/
mutual
inductive Da (K : PySem.W.Frag) (G : Hp) : V → PyData → Prop
  | non : Da K G .non .none
  | bl (b : Bool) : Da K G (.bl b) (.bool b)
  | int (i : Int) : Da K G (.int i) (.int i)
  | str (x : Str) : Da K G (.str x) (.str x)
  | lst {a : Addr} {xs : List V} {ds : List PyData} : G a = some (.lst xs) → DaAll K G xs ds → Da K G (.ref a) (.list ds)
  | tup {a : Addr} {xs : List V} {ds : List PyData} : G a = some (.tup xs) → DaAll K G xs ds → Da K G (.ref a) (.tuple ds)
inductive DaAll (K : PySem.W.Frag) (G : Hp) : List V → List PyData → Prop
  | nil : DaAll K G [] []
  | cons {v : V} {vs : List V} {d : PyData} {ds : List PyData} : Da K G v d → DaAll K G vs ds → DaAll K G (v :: vs) (d :: ds)
end
mutual
theorem Da.up {K : PySem.W.Frag} {G G' : Hp} (e : Same G G') : ∀ {d : PyData} {v : V}, Da K G v d → Da K G' v d
  | .none, _, h => by cases h; exact .non
  | .bool b, _, h => by cases h; exact .bl b
  | .int i, _, h => by cases h; exact .int i
  | .str x, _, h => by cases h; exact .str x
  | .list ds, _, h => by
    cases h with
    | lst s a => exact .lst (e _ _ s) (DaAll.up e a)
  | .tuple ds, _, h => by
    cases h with
    | tup s a => exact .tup (e _ _ s) (DaAll.up e a)
  | .dict _, _, h => nomatch h
theorem DaAll.up {K : PySem.W.Frag} {G G' : Hp} (e : Same G G') : ∀ {ds : List PyData} {vs : List V}, DaAll K G vs ds → DaAll K G' vs ds
  | [], _, h => by cases h; exact .nil
  | d :: ds, _, h => by
    cases h with
    | cons a b => exact .cons (Da.up e a) (DaAll.up e b)
end
mutual
theorem Da.dp {K : PySem.W.Frag} {G : Hp} : ∀ {d : PyData} {v : V}, Da K G v d → Dp K G v d
  | .none, _, h => by cases h; exact .non
  | .bool b, _, h => by cases h; exact .bl b
  | .int i, _, h => by cases h; exact .int i
  | .str x, _, h => by cases h; exact .str x
  | .list ds, _, h => by
    cases h with
    | lst s a => exact .lst (SqL.of s) (DaAll.dp a)
  | .tuple ds, _, h => by
    cases h with
    | tup s a => exact .tup (SqT.of s) (DaAll.dp a)
  | .dict _, _, h => nomatch h
theorem DaAll.dp {K : PySem.W.Frag} {G : Hp} : ∀ {ds : List PyData} {vs : List V}, DaAll K G vs ds → DpAll K G vs ds
  | [], _, h => by cases h; exact .nil
  | d :: ds, _, h => by
    cases h with
    | cons a b => exact .cons (Da.dp a) (DaAll.dp b)
end
section
variable {K : PySem.W.Frag} {G : Hp}
theorem Da.int_eq {v : V} {i : Int} (h : Da K G v (.int i)) : v = .int i := by cases h; rfl
theorem Da.str_eq {v : V} {x : Str} (h : Da K G v (.str x)) : v = .str x := by cases h; rfl
theorem Da.bl_eq {v : V} {b : Bool} (h : Da K G v (.bool b)) : v = .bl b := by cases h; rfl
theorem Da.non_eq {v : V} (h : Da K G v .none) : v = .non := by cases h; rfl
theorem Da.lst_eq {v : V} {ds : List PyData} (h : Da K G v (.list ds)) : ∃ a xs, v = .ref a ∧ G a = some (.lst xs) ∧ DaAll K G xs ds := by
  cases h with
  | lst s a => exact ⟨_, _, rfl, s, a⟩
theorem Da.tup_eq {v : V} {ds : List PyData} (h : Da K G v (.tuple ds)) : ∃ a xs, v = .ref a ∧ G a = some (.tup xs) ∧ DaAll K G xs ds := by
  cases h with
  | tup s a => exact ⟨_, _, rfl, s, a⟩
theorem DaAll.length : ∀ {vs : List V} {ds : List PyData}, DaAll K G vs ds → vs.length = ds.length
  | [], _, h => by cases h; rfl
  | _ :: _, _, h => by
    cases h with
    | cons a b => rw [List.length_cons, List.length_cons, DaAll.length b]
theorem DaAll.get : ∀ {vs : List V} {ds : List PyData} {n : Nat} {d : PyData}, DaAll K G vs ds → ds[n]? = some d → ∃ v, vs[n]? = some v ∧ Da K G v d
  | _, [], n, d, h, e => by simp at e
  | _, d' :: ds, 0, d, h, e => by
    cases h with
    | cons a b =>
      have e2 : d' = d := by simpa using e
      subst e2
      exact ⟨_, rfl, a⟩
  | _, d' :: ds, n + 1, d, h, e => by
    cases h with
    | cons a b =>
      obtain ⟨v, e1, e2⟩ := DaAll.get b (n := n) (d := d) (by simpa using e)
      exact ⟨v, by simpa using e1, e2⟩
theorem DaAll.getV : ∀ {vs : List V} {ds : List PyData} {n : Nat} {v : V}, DaAll K G vs ds → vs[n]? = some v → ∃ d, ds[n]? = some d ∧ Da K G v d
  | [], _, n, v, h, e => by simp at e
  | v' :: vs, _, 0, v, h, e => by
    cases h with
    | cons a b =>
      have e2 : v' = v := by simpa using e
      subst e2
      exact ⟨_, rfl, a⟩
  | v' :: vs, _, n + 1, v, h, e => by
    cases h with
    | cons a b =>
      obtain ⟨d, e1, e2⟩ := DaAll.getV b (n := n) (v := v) (by simpa using e)
      exact ⟨d, by simpa using e1, e2⟩
theorem DaAll.append : ∀ {vs ws : List V} {ds es : List PyData}, DaAll K G vs ds → DaAll K G ws es → DaAll K G (vs ++ ws) (ds ++ es)
  | [], _, _, _, h, h2 => by cases h; exact h2
  | _ :: _, _, _, _, h, h2 => by
    cases h with
    | cons a b => exact .cons a (DaAll.append b h2)
theorem DaAll.take (n : Nat) : ∀ {vs : List V} {ds : List PyData}, DaAll K G vs ds → DaAll K G (vs.take n) (ds.take n) := by
  induction n with
  | zero => intro vs ds h; simp; exact .nil
  | succ n ih =>
    intro vs ds h
    cases h with
    | nil => simp; exact .nil
    | cons a b => simp only [List.take_succ_cons]; exact .cons a (ih b)
theorem DaAll.drop (n : Nat) : ∀ {vs : List V} {ds : List PyData}, DaAll K G vs ds → DaAll K G (vs.drop n) (ds.drop n) := by
  induction n with
  | zero => intro vs ds h; simpa using h
  | succ n ih =>
    intro vs ds h
    cases h with
    | nil => simp; exact .nil
    | cons a b => simp only [List.drop_succ_cons]; exact ih b
theorem DaAll.ints : ∀ (ns : List Int), DaAll K G (ns.map V.int) (ns.map PyData.int)
  | [] => .nil
  | n :: ns => .cons (.int n) (DaAll.ints ns)
theorem DaAll.intsV : ∀ {vs : List V} {ns : List Int}, DaAll K G vs (ns.map PyData.int) → vs = ns.map V.int
  | [], ns, h => by
    cases ns with
    | nil => rfl
    | cons n ns => cases h
  | v :: vs, ns, h => by
    cases ns with
    | nil => cases h
    | cons n ns =>
      cases h with
      | cons a b => rw [a.int_eq, DaAll.intsV b]; rfl
theorem DaAll.boolsV : ∀ {vs : List V} {ns : List Bool}, DaAll K G vs (ns.map PyData.bool) → vs = ns.map V.bl
  | [], ns, h => by
    cases ns with
    | nil => rfl
    | cons n ns => cases h
  | v :: vs, ns, h => by
    cases ns with
    | nil => cases h
    | cons n ns =>
      cases h with
      | cons a b => rw [a.bl_eq, DaAll.boolsV b]; rfl
theorem DaAll.strsV : ∀ {vs : List V} {ns : List Str}, DaAll K G vs (ns.map PyData.str) → vs = ns.map V.str
  | [], ns, h => by
    cases ns with
    | nil => rfl
    | cons n ns => cases h
  | v :: vs, ns, h => by
    cases ns with
    | nil => cases h
    | cons n ns =>
      cases h with
      | cons a b => rw [a.str_eq, DaAll.strsV b]; rfl
end

/-! ### what the slots hold -/
inductive Sl where
  | non
  | d (d : PyData)
  | v (v : V)
def SlOk (K : PySem.W.Frag) (G : Hp) : Option V → Sl → Prop
  | _, .non => True
  | some v, .d d => Da K G v d
  | none, .d _ => False
  | o, .v x => o = some x
def Sv (K : PySem.W.Frag) (G : Hp) (σ : L2.St) (δ : List Sl) : Prop := Paired (SlOk K G) σ δ
section
variable {K : PySem.W.Frag} {G G' : Hp} {σ : L2.St} {δ : List Sl}
theorem SlOk.up (e : Same G G') {o : Option V} {s : Sl} (h : SlOk K G o s) : SlOk K G' o s := by
  cases s with
  | non => cases o <;> exact trivial
  | d x =>
    cases o with
    | none => exact h
    | some v => exact Da.up e h
  | v x => cases o <;> exact h
theorem Sv.up (e : Same G G') (h : Sv K G σ δ) : Sv K G' σ δ := Paired.mapP h fun _ _ q => q.up e
theorem Sv.get : ∀ {σ : L2.St} {δ : List Sl} {i : Nat} {s : Sl}, Sv K G σ δ → δ[i]? = some s → ∃ o, σ[i]? = some o ∧ SlOk K G o s
  | _, _, _, _, .nil, e => by simp at e
  | _, _, 0, _, .cons r _, e => by
    have e2 := Option.some.inj e
    subst e2
    exact ⟨_, rfl, r⟩
  | _, _, i + 1, s, .cons _ t, e => by
    obtain ⟨o, e1, e2⟩ := Sv.get t (i := i) (s := s) (by simpa using e)
    exact ⟨o, by simpa using e1, e2⟩
theorem Sv.dat {i : Nat} {d : PyData} (h : Sv K G σ δ) (e : δ[i]? = some (.d d)) : ∃ v, σ[i]? = some (some v) ∧ Da K G v d := by
  obtain ⟨o, e1, e2⟩ := h.get e
  cases o with
  | none => exact e2.elim
  | some v => exact ⟨v, e1, e2⟩
theorem Sv.val {i : Nat} {v : V} (h : Sv K G σ δ) (e : δ[i]? = some (.v v)) : σ[i]? = some (some v) := by
  obtain ⟨o, e1, e2⟩ := h.get e
  cases o with
  | none => cases e2
  | some w => rw [e1]; exact congrArg some e2
theorem Sv.set {o : Option V} {s : Sl} (q : SlOk K G o s) : ∀ {σ : L2.St} {δ : List Sl} (i : Nat), Sv K G σ δ → Sv K G (σ.set i o) (δ.set i s)
  | _, _, _, .nil => .nil
  | _, _, 0, .cons _ t => .cons q t
  | _, _, i + 1, .cons r t => .cons r (Sv.set q i t)
theorem Sv.len (h : Sv K G σ δ) : σ.length = δ.length := Paired.length h
theorem slOk_d {v : V} {d : PyData} (h : Da K G v d) : SlOk K G (some v) (.d d) := h
theorem slOk_v (v : V) : SlOk K G (some v) (.v v) := rfl
theorem slOk_n (o : Option V) : SlOk K G o .non := by cases o <;> exact trivial
/-- what a value is -/
abbrev VOk (K : PySem.W.Frag) (G : Hp) (v : V) (s : Sl) : Prop := SlOk K G (some v) s
abbrev Vs (K : PySem.W.Frag) (G : Hp) (vs : List V) (ss : List Sl) : Prop := Paired (VOk K G) vs ss
theorem Vs.up (e : Same G G') {vs : List V} {ss : List Sl} (h : Vs K G vs ss) : Vs K G' vs ss := Paired.mapP h fun _ _ q => q.up e
theorem Vs.len {vs : List V} {ss : List Sl} (h : Vs K G vs ss) : vs.length = ss.length := Paired.length h
theorem Vs.da : ∀ {vs : List V} {ds : List PyData}, Vs K G vs (ds.map Sl.d) → DaAll K G vs ds
  | [], ds, h => by
    cases ds with
    | nil => exact .nil
    | cons d ds => cases h
  | v :: vs, ds, h => by
    cases ds with
    | nil => cases h
    | cons d ds =>
      cases h with
      | cons a b => exact .cons a (Vs.da b)
theorem DaAll.vs : ∀ {vs : List V} {ds : List PyData}, DaAll K G vs ds → Vs K G vs (ds.map Sl.d)
  | [], _, h => by cases h; exact .nil
  | _ :: _, _, h => by
    cases h with
    | cons a b => exact .cons a (DaAll.vs b)
/-- the slots of a call: the arguments, then nothing -/
theorem Sv.of_vs : ∀ {vs : List V} {ss : List Sl}, Vs K G vs ss → Sv K G (vs.map some) ss
  | _, _, .nil => .nil
  | _, _, .cons a b => .cons a (Sv.of_vs b)
theorem Sv.nones : ∀ n : Nat, Sv K G (List.replicate n none) (List.replicate n .non)
  | 0 => .nil
  | n + 1 => .cons trivial (Sv.nones n)
theorem Sv.app : ∀ {σ τ : L2.St} {δ ε : List Sl}, Sv K G σ δ → Sv K G τ ε → Sv K G (σ ++ τ) (δ ++ ε)
  | _, _, _, _, .nil, h => h
  | _, _, _, _, .cons a b, h => .cons a (Sv.app b h)
theorem Sv.start {vs : List V} {ss : List Sl} {N : List Str} {n : Nat} (h : Vs K G vs ss) (e : N.length - ss.length = n) : Sv K G (start N vs) (ss ++ List.replicate n .non) := by
  unfold L2.start
  rw [h.len, e]
  exact (Sv.of_vs h).app (Sv.nones n)
theorem Sv.wipe (h : Sv K G σ δ) : ∀ vs : List Nat, Sv K G (L2.wipe σ vs) (vs.foldr (fun i δ => δ.set i .non) δ)
  | [] => h
  | v :: vs => Sv.set (slOk_n none) v (Sv.wipe h vs)
end
end MW

set_option Elab.async false
set_option linter.all false
set_option maxRecDepth 100000
set_option maxHeartbeats 2000000
namespace MW
open PySem PySem.Spec PyProof.Rows L2

theorem sz {n : Nat} (h : n ≤ 1000000) : n ≤ sizeLine := Nat.le_trans h (by decide)
theorem szl {n : Nat} (h : n < 1000000) : n < sizeLine := Nat.lt_of_lt_of_le h (by decide)

theorem not_t {b : Bool} (h : (!b) = true) : b = false := by cases b <;> first | rfl | cases h
theorem not_f {b : Bool} (h : (!b) = false) : b = true := by cases b <;> first | rfl | cases h
/-! ### an expression comes to a thing; a test to an answer; arguments to things -/
def Ev (K : PySem.W.Frag) (te : TE) (σ : L2.St) (S : Sit) (s : Sl) : Prop := ∀ T, Le S T → ∀ Q : VK, (∀ v U, Le T U → VOk K U.G v s → Q v U.H) → te σ T.H Q
abbrev EvD (K : PySem.W.Frag) (te : TE) (σ : L2.St) (S : Sit) (d : PyData) : Prop := Ev K te σ S (.d d)
def EvB (K : PySem.W.Frag) (tt : TT) (σ : L2.St) (S : Sit) (b : Bool) : Prop := ∀ T, Le S T → ∀ Q : Bool → Hp → Prop, (∀ U, Le T U → Q b U.H) → tt σ T.H Q
def EvA (K : PySem.W.Frag) (ta : TA) (σ : L2.St) (S : Sit) (ss : List Sl) : Prop := ∀ T, Le S T → ∀ Q : List V → Hp → Prop, (∀ vs U, Le T U → Vs K U.G vs ss → Q vs U.H) → ta σ T.H Q
def EvO (K : PySem.W.Frag) (to : TO) (σ : L2.St) (S : Sit) (o : Option Int) : Prop := ∀ T, Le S T → ∀ Q : Option Int → Hp → Prop, (∀ U, Le T U → Q o U.H) → to σ T.H Q

section
variable {K : PySem.W.Frag} {σ : L2.St} {S : Sit} {δ : List Sl} {ta tb tc te : TE} {t u : TT}
theorem Ev.up {s : Sl} {T : Sit} (e : Le S T) (h : Ev K te σ S s) : Ev K te σ T s := fun U a Q q => h U (e.trans a) Q q
theorem ev_var {i : Nat} {d : PyData} (hE : Sv K S.G σ δ) (e : δ[i]? = some (.d d)) : EvD K (tVar i) σ S d := fun T a Q q => by
  obtain ⟨v, e1, e2⟩ := hE.dat e
  exact ⟨v, e1, q v T (Le.refl T) (Da.up a.g e2)⟩
theorem ev_varv {i : Nat} {v : V} (hE : Sv K S.G σ δ) (e : δ[i]? = some (.v v)) : Ev K (tVar i) σ S (.v v) := fun T a Q q => ⟨v, hE.val e, q v T (Le.refl T) rfl⟩
theorem ev_ci {i : Int} : EvD K (tC (.int i)) σ S (.int i) := fun T _ Q q => q _ T (Le.refl T) (Da.int i)
theorem ev_cs {x : Str} : EvD K (tC (.str x)) σ S (.str x) := fun T _ Q q => q _ T (Le.refl T) (Da.str x)
theorem ev_cb {b : Bool} : EvD K (tC (.bl b)) σ S (.bool b) := fun T _ Q q => q _ T (Le.refl T) (Da.bl b)
theorem ev_cn : EvD K (tC .non) σ S .none := fun T _ Q q => q _ T (Le.refl T) Da.non
theorem ev_cv {v : V} : Ev K (tC v) σ S (.v v) := fun T _ Q q => q v T (Le.refl T) rfl
/-- two things, then what is made of them -/
theorem ev_two {r : R2} {s1 s2 s : Sl} (ha : Ev K ta σ S s1) (hb : Ev K tb σ S s2)
    (hr : ∀ T x y, Le S T → VOk K T.G x s1 → VOk K T.G y s2 → ∀ Q : VK, (∀ v U, Le T U → VOk K U.G v s → Q v U.H) → r x y T.H Q) : Ev K (tOp r ta tb) σ S s := fun T a Q q =>
  ha T a _ fun x U1 l1 o1 => hb U1 (a.trans l1) _ fun y U2 l2 o2 => hr U2 x y ((a.trans l1).trans l2) (o1.up l2.g) o2 Q fun v U3 l3 o3 => q v U3 ((l1.trans l2).trans l3) o3
theorem ev_I0 {f : Int → Int → Int} {i j : Int} (ha : EvD K ta σ S (.int i)) (hb : EvD K tb σ S (.int j)) : EvD K (tOp (rI0 fun i j => .int (f i j)) ta tb) σ S (.int (f i j)) :=
  ev_two ha hb fun T x y _ hx hy Q q => by
    have ex := Da.int_eq hx; have ey := Da.int_eq hy
    subst ex ey
    exact ⟨i, j, rfl, rfl, q _ T (Le.refl T) (Da.int _)⟩
theorem ev_B0 {f : Int → Int → Bool} {i j : Int} (ha : EvD K ta σ S (.int i)) (hb : EvD K tb σ S (.int j)) : EvD K (tOp (rI0 fun i j => .bl (f i j)) ta tb) σ S (.bool (f i j)) :=
  ev_two ha hb fun T x y _ hx hy Q q => by
    have ex := Da.int_eq hx; have ey := Da.int_eq hy
    subst ex ey
    exact ⟨i, j, rfl, rfl, q _ T (Le.refl T) (Da.bl _)⟩
theorem ev_I {C : Int → Int → Prop} {f : Int → Int → Int} {i j : Int} (ha : EvD K ta σ S (.int i)) (hb : EvD K tb σ S (.int j)) (hc : C i j) : EvD K (tOp (rI C fun i j => .int (f i j)) ta tb) σ S (.int (f i j)) :=
  ev_two ha hb fun T x y _ hx hy Q q => by
    have ex := Da.int_eq hx; have ey := Da.int_eq hy
    subst ex ey
    exact ⟨i, j, rfl, rfl, hc, q _ T (Le.refl T) (Da.int _)⟩
theorem ev_neg {f : Int → Int} {i : Int} (ha : EvD K ta σ S (.int i)) : EvD K (tUn (rU fun i => .int (f i)) ta) σ S (.int (f i)) := fun T a Q q =>
  ha T a _ fun x U l o => by
    have ex := Da.int_eq o
    subst ex
    exact ⟨i, rfl, q _ U l (Da.int _)⟩
theorem ev_chain {f g : Int → Int → Bool} {i j k : Int} (ha : EvD K ta σ S (.int i)) (hb : EvD K tb σ S (.int j)) (hc : EvD K tc σ S (.int k)) :
    EvD K (tChain (rI0 fun i j => .bl (f i j)) (rI0 fun i j => .bl (g i j)) ta tb tc) σ S (.bool (f i j && g j k)) := fun T a Q q =>
  ha T a _ fun x U1 l1 o1 => hb U1 (a.trans l1) _ fun y U2 l2 o2 => by
    have ex := Da.int_eq o1; have ey := Da.int_eq o2
    subst ex ey
    refine ⟨i, j, rfl, rfl, f i j, rfl, ?_⟩
    cases h : f i j with
    | false => exact iteF (q (.bl false) U2 (l1.trans l2) (by rw [h]; exact Da.bl _))
    | true =>
      refine iteT ?_
      refine hc U2 ((a.trans l1).trans l2) _ fun z U3 l3 o3 => ?_
      have ez := Da.int_eq o3
      subst ez
      refine ⟨j, k, rfl, rfl, ?_⟩
      have := q (.bl (g j k)) U3 ((l1.trans l2).trans l3) (by rw [h]; exact Da.bl _)
      exact this
theorem ea_nil : EvA K tNil σ S [] := fun T _ Q q => q [] T (Le.refl T) .nil
theorem ea_cons {tr : TA} {s : Sl} {ss : List Sl} (ha : Ev K ta σ S s) (hr : EvA K tr σ S ss) : EvA K (tCons ta tr) σ S (s :: ss) := fun T a Q q =>
  ha T a _ fun x U l o => hr U (a.trans l) _ fun xs U2 l2 o2 => q _ U2 (l.trans l2) (.cons (o.up l2.g) o2)
theorem ea_ds {tr : TA} {d : PyData} {ds : List PyData} (ha : EvD K ta σ S d) (hr : EvA K tr σ S (ds.map Sl.d)) : EvA K (tCons ta tr) σ S ((d :: ds).map Sl.d) := ea_cons ha hr
theorem ea_d0 : EvA K tNil σ S (([] : List PyData).map Sl.d) := ea_nil
theorem ev_tup {tr : TA} {ds : List PyData} (ha : EvA K tr σ S (ds.map Sl.d)) (hl : ds.length ≤ 1000000) : EvD K (tTup tr) σ S (.tuple ds) := fun T a Q q =>
  ha T a _ fun xs U l o => by
    have h := Vs.da o
    refine ⟨sz (by rw [h.length]; exact hl), fun p hp => ?_⟩
    refine q (.ref p) (U.push p (.tup xs) hp) (l.trans (U.push_le hp)) (Da.tup upd_same (DaAll.up (U.push_le hp).g h))
theorem ev_lst {tr : TA} {ds : List PyData} (ha : EvA K tr σ S (ds.map Sl.d)) (hl : ds.length ≤ 1000000) : EvD K (tLst tr) σ S (.list ds) := fun T a Q q =>
  ha T a _ fun xs U l o => by
    have h := Vs.da o
    refine ⟨sz (by rw [h.length]; exact hl), fun p hp => ?_⟩
    refine q (.ref p) (U.push p (.lst xs) hp) (l.trans (U.push_le hp)) (Da.lst upd_same (DaAll.up (U.push_le hp).g h))
theorem atI_len {α β : Type} {xs : List α} {ys : List β} {i : Int} (h : xs.length = ys.length) : ixN xs.length i = ixN ys.length i := by rw [h]
theorem DaAll.atI {G : Hp} {vs : List V} {ds : List PyData} {i : Int} {d : PyData} (h : DaAll K G vs ds) (e : L2.atI ds i = some d) : ∃ v, L2.atI vs i = some v ∧ Da K G v d := by
  unfold L2.atI at e ⊢
  rw [h.length]
  cases q : ixN ds.length i with
  | none => rw [q] at e; cases e
  | some j =>
    rw [q] at e
    exact h.get e
theorem ev_ixL {i : Int} {ds : List PyData} {d : PyData} (ha : EvD K ta σ S (.list ds)) (hb : EvD K tb σ S (.int i)) (e : L2.atI ds i = some d) : EvD K (tOp (rIxL K) ta tb) σ S d :=
  ev_two ha hb fun T x y _ hx hy Q q => by
    obtain ⟨a, xs, rfl, h1, h2⟩ := Da.lst_eq hx
    have ey := Da.int_eq hy
    subst ey
    obtain ⟨v, e1, e2⟩ := h2.atI e
    exact ⟨a, xs, i, v, rfl, rfl, SqL.of (T.sub _ _ h1), e1, q v T (Le.refl T) e2⟩
theorem ev_ixT {i : Int} {ds : List PyData} {d : PyData} (ha : EvD K ta σ S (.tuple ds)) (hb : EvD K tb σ S (.int i)) (e : L2.atI ds i = some d) : EvD K (tOp (rIxT K) ta tb) σ S d :=
  ev_two ha hb fun T x y _ hx hy Q q => by
    obtain ⟨a, xs, rfl, h1, h2⟩ := Da.tup_eq hx
    have ey := Da.int_eq hy
    subst ey
    obtain ⟨v, e1, e2⟩ := h2.atI e
    exact ⟨a, xs, i, v, rfl, rfl, SqT.of (T.sub _ _ h1), e1, q v T (Le.refl T) e2⟩
theorem ev_ixS {i : Int} {z : Str} {c : Nat} (ha : EvD K ta σ S (.str z)) (hb : EvD K tb σ S (.int i)) (e : L2.atI z.cps.toList i = some c) (hl : z.length ≤ 1000000) : EvD K (tOp rIxS ta tb) σ S (.str ⟨#[c]⟩) :=
  ev_two ha hb fun T x y _ hx hy Q q => by
    have ex := Da.str_eq hx; have ey := Da.int_eq hy
    subst ex ey
    exact ⟨z, i, c, rfl, rfl, sz hl, e, q _ T (Le.refl T) (Da.str _)⟩
/-- a call of a built-in, by its reading -/
theorem ev_cb1 {r : List V → Hp → VK → Prop} {s1 s : Sl} (ha : Ev K ta σ S s1) (hr : ∀ T x, Le S T → VOk K T.G x s1 → ∀ Q : VK, (∀ v U, Le T U → VOk K U.G v s → Q v U.H) → r [x] T.H Q) : Ev K (tCB r (tCons ta tNil)) σ S s := fun T a Q q =>
  ha T a _ fun x U l o => hr U x (a.trans l) o Q fun v U2 l2 o2 => q v U2 (l.trans l2) o2
theorem ev_cb2 {r : List V → Hp → VK → Prop} {s1 s2 s : Sl} (ha : Ev K ta σ S s1) (hb : Ev K tb σ S s2) (hr : ∀ T x y, Le S T → VOk K T.G x s1 → VOk K T.G y s2 → ∀ Q : VK, (∀ v U, Le T U → VOk K U.G v s → Q v U.H) → r [x, y] T.H Q) : Ev K (tCB r (tCons ta (tCons tb tNil))) σ S s := fun T a Q q =>
  ha T a _ fun x U l o => hb U (a.trans l) _ fun y U2 l2 o2 => hr U2 x y ((a.trans l).trans l2) (o.up l2.g) o2 Q fun v U3 l3 o3 => q v U3 ((l.trans l2).trans l3) o3
abbrev rLen (K : PySem.W.Frag) : List V → Hp → VK → Prop := fun xs H Q => ∃ x n, xs = [x] ∧ LenV K x H n ∧ Q (.int n) H
theorem ev_lenL {ds : List PyData} (ha : EvD K ta σ S (.list ds)) : EvD K (tCB (rLen K) (tCons ta tNil)) σ S (.int (ds.length : Nat)) :=
  ev_cb1 ha fun T x _ hx Q q => by
    obtain ⟨a, xs, rfl, h1, h2⟩ := Da.lst_eq hx
    exact ⟨_, ds.length, rfl, .inl ⟨xs, SqL.of (T.sub _ _ h1), h2.length.symm⟩, q _ T (Le.refl T) (Da.int _)⟩
theorem ev_lenT {ds : List PyData} (ha : EvD K ta σ S (.tuple ds)) : EvD K (tCB (rLen K) (tCons ta tNil)) σ S (.int (ds.length : Nat)) :=
  ev_cb1 ha fun T x _ hx Q q => by
    obtain ⟨a, xs, rfl, h1, h2⟩ := Da.tup_eq hx
    exact ⟨_, ds.length, rfl, .inr ⟨xs, SqT.of (T.sub _ _ h1), h2.length.symm⟩, q _ T (Le.refl T) (Da.int _)⟩
theorem ev_lenS {z : Str} (ha : EvD K ta σ S (.str z)) (hl : z.length ≤ 1000000) : EvD K (tCB (rLen K) (tCons ta tNil)) σ S (.int (z.length : Nat)) :=
  ev_cb1 ha fun T x _ hx Q q => by
    have ex := Da.str_eq hx
    subst ex
    exact ⟨_, z.length, rfl, ⟨sz hl, rfl⟩, q _ T (Le.refl T) (Da.int _)⟩
theorem ev_all {bs : List Bool} (ha : EvD K ta σ S (.list (bs.map PyData.bool))) : EvD K (tCB (rAll K) (tCons ta tNil)) σ S (.bool (bs.all id)) :=
  ev_cb1 ha fun T x _ hx Q q => by
    obtain ⟨a, xs, rfl, h1, h2⟩ := Da.lst_eq hx
    have e := h2.boolsV
    subst e
    exact ⟨a, bs, rfl, SqL.of (T.sub _ _ h1), q _ T (Le.refl T) (Da.bl _)⟩
theorem ev_any {bs : List Bool} (ha : EvD K ta σ S (.list (bs.map PyData.bool))) : EvD K (tCB (rAny K) (tCons ta tNil)) σ S (.bool (bs.any id)) :=
  ev_cb1 ha fun T x _ hx Q q => by
    obtain ⟨a, xs, rfl, h1, h2⟩ := Da.lst_eq hx
    have e := h2.boolsV
    subst e
    exact ⟨a, bs, rfl, SqL.of (T.sub _ _ h1), q _ T (Le.refl T) (Da.bl _)⟩
theorem ev_eqD {d e : PyData} (ha : EvD K ta σ S d) (hb : EvD K tb σ S e) (h1 : SeqAt.shaped d = true) (h2 : SeqAt.shaped e = true) : EvD K (tOp (rEqD K) ta tb) σ S (.bool (PyData.eqv d e)) :=
  ev_two ha hb fun T x y _ hx hy Q q => ⟨d, e, (Da.up T.sub hx).dp, (Da.up T.sub hy).dp, h1, h2, q _ T (Le.refl T) (Da.bl _)⟩
theorem ev_neD {d e : PyData} (ha : EvD K ta σ S d) (hb : EvD K tb σ S e) (h1 : SeqAt.shaped d = true) (h2 : SeqAt.shaped e = true) : EvD K (tOp (rNeD K) ta tb) σ S (.bool (!PyData.eqv d e)) :=
  ev_two ha hb fun T x y _ hx hy Q q => ⟨d, e, (Da.up T.sub hx).dp, (Da.up T.sub hy).dp, h1, h2, q _ T (Le.refl T) (Da.bl _)⟩
abbrev rInSign : R2 := fun x y H Q => ∃ (c : Nat) (z : Str), x = .str ⟨#[c]⟩ ∧ y = .str z ∧ Q (.bl (decide (c ∈ z.cps.toList))) H
abbrev rNotInSign : R2 := fun x y H Q => ∃ (c : Nat) (z : Str), x = .str ⟨#[c]⟩ ∧ y = .str z ∧ Q (.bl (!decide (c ∈ z.cps.toList))) H
theorem ev_inS {c : Nat} {z : Str} (ha : EvD K ta σ S (.str ⟨#[c]⟩)) (hb : EvD K tb σ S (.str z)) : EvD K (tOp rInSign ta tb) σ S (.bool (decide (c ∈ z.cps.toList))) :=
  ev_two ha hb fun T x y _ hx hy Q q => by
    have ex := Da.str_eq hx; have ey := Da.str_eq hy
    subst ex ey
    exact ⟨c, z, rfl, rfl, q _ T (Le.refl T) (Da.bl _)⟩
theorem ev_addS {x y : Str} (ha : EvD K ta σ S (.str x)) (hb : EvD K tb σ S (.str y)) (hl : x.length + y.length ≤ 1000000) :
    EvD K (tOp (fun x y H Q => ∃ i j, x = V.str i ∧ y = V.str j ∧ i.length + j.length ≤ sizeLine ∧ Q (.str (i ++ j)) H) ta tb) σ S (.str (x ++ y)) :=
  ev_two ha hb fun T v w _ hx hy Q q => by
    have ex := Da.str_eq hx; have ey := Da.str_eq hy
    subst ex ey
    exact ⟨x, y, rfl, rfl, sz hl, q _ T (Le.refl T) (Da.str _)⟩
theorem ev_catT {xs ys : List PyData} (ha : EvD K ta σ S (.tuple xs)) (hb : EvD K tb σ S (.tuple ys)) (h1 : xs ≠ []) (h2 : ys ≠ []) (hl : xs.length + ys.length ≤ 1000000) : EvD K (tOp (rCatT K) ta tb) σ S (.tuple (xs ++ ys)) :=
  ev_two ha hb fun T v w _ hx hy Q q => by
    obtain ⟨a, us, rfl, e1, e2⟩ := Da.tup_eq hx
    obtain ⟨b, ws, rfl, e3, e4⟩ := Da.tup_eq hy
    have n1 : us ≠ [] := fun z => by
      subst z; cases e2; exact h1 rfl
    have n2 : ws ≠ [] := fun z => by
      subst z; cases e4; exact h2 rfl
    refine ⟨a, b, us, ws, rfl, rfl, SqT.of (T.sub _ _ e1), SqT.of (T.sub _ _ e3), n1, sz (by rw [e2.length, e4.length]; exact hl), fun z => absurd z n2, fun _ p hp => ?_⟩
    exact q (.ref p) (T.push p _ hp) (T.push_le hp) (Da.tup upd_same (DaAll.up (T.push_le hp).g (e2.append e4)))
theorem ev_cat {xs ys : List PyData} (ha : EvD K ta σ S (.list xs)) (hb : EvD K tb σ S (.list ys)) (hl : xs.length + ys.length ≤ 1000000) : EvD K (tOp rCat ta tb) σ S (.list (xs ++ ys)) :=
  ev_two ha hb fun T v w _ hx hy Q q => by
    obtain ⟨a, us, rfl, e1, e2⟩ := Da.lst_eq hx
    obtain ⟨b, ws, rfl, e3, e4⟩ := Da.lst_eq hy
    refine ⟨a, b, us, ws, rfl, rfl, T.sub _ _ e1, T.sub _ _ e3, sz (by rw [e2.length, e4.length]; exact hl), fun p hp => ?_⟩
    exact q (.ref p) (T.push p _ hp) (T.push_le hp) (Da.lst upd_same (DaAll.up (T.push_le hp).g (e2.append e4)))
/-- None or not -/
def isNone : PyData → Bool
  | .none => true
  | _ => false
theorem Da.isN {G : Hp} {v : V} {d : PyData} (h : Da K G v d) : decide (v = V.non) = isNone d := by
  cases h <;> rfl
theorem ev_isN {d : PyData} (ha : EvD K ta σ S d) : EvD K (tOp (fun x y H Q => y = V.non ∧ Q (.bl (decide (x = .non))) H) ta (tC .non)) σ S (.bool (isNone d)) :=
  ev_two ha ev_cn fun T x y _ hx hy Q q => by
    have ey := Da.non_eq hy
    subst ey
    refine ⟨rfl, ?_⟩
    rw [Da.isN hx]
    exact q _ T (Le.refl T) (Da.bl _)
theorem ev_notN {d : PyData} (ha : EvD K ta σ S d) : EvD K (tOp (fun x y H Q => y = V.non ∧ Q (.bl (!decide (x = .non))) H) ta (tC .non)) σ S (.bool (!isNone d)) :=
  ev_two ha ev_cn fun T x y _ hx hy Q q => by
    have ey := Da.non_eq hy
    subst ey
    refine ⟨rfl, ?_⟩
    rw [Da.isN hx]
    exact q _ T (Le.refl T) (Da.bl _)

/-! ### slices -/
theorem eo_none : EvO K tNoPart σ S none := fun T _ _ q => q T (Le.refl T)
theorem eo_some {i : Int} (h : EvD K te σ S (.int i)) : EvO K (tPart te) σ S (some i) := fun T a _ q => h T a _ fun v U l o => by
  have ev := Da.int_eq o
  subst ev
  exact ⟨i, rfl, q U l⟩
def cutD (xs : List PyData) (lo hi : Option Int) : List PyData := (xs.drop (HT.sIx xs.length 0 lo)).take (HT.sIx xs.length xs.length hi - HT.sIx xs.length 0 lo)
theorem DaAll.cut {G : Hp} {vs : List V} {ds : List PyData} (h : DaAll K G vs ds) (lo hi : Option Int) : DaAll K G (cutV vs lo hi) (cutD ds lo hi) := by
  unfold cutV cutD
  rw [h.length]
  exact (h.drop _).take _
theorem ev_slL {tl th : TO} {ds : List PyData} {lo hi : Option Int} (ha : EvD K ta σ S (.list ds)) (h1 : EvO K tl σ S lo) (h2 : EvO K th σ S hi) : EvD K (L2.tSl (rSlL K) ta tl th) σ S (.list (cutD ds lo hi)) := fun T a Q q =>
  ha T a _ fun v U1 l1 o1 => h1 U1 (a.trans l1) _ fun U2 l2 => h2 U2 ((a.trans l1).trans l2) _ fun U3 l3 => by
    obtain ⟨b, us, rfl, e1, e2⟩ := Da.lst_eq (Da.up (l2.trans l3).g o1)
    refine ⟨b, us, rfl, SqL.of (U3.sub _ _ e1), fun p hp => ?_⟩
    exact q (.ref p) (U3.push p _ hp) (((l1.trans l2).trans l3).trans (U3.push_le hp)) (Da.lst upd_same (DaAll.up (U3.push_le hp).g (e2.cut lo hi)))
theorem ev_slT {tl th : TO} {ds : List PyData} {lo hi : Option Int} (ha : EvD K ta σ S (.tuple ds)) (h1 : EvO K tl σ S lo) (h2 : EvO K th σ S hi)
    (hn : ¬ (HT.sIx ds.length 0 lo = 0 ∧ HT.sIx ds.length ds.length hi = ds.length)) : EvD K (L2.tSl (rSlT K) ta tl th) σ S (.tuple (cutD ds lo hi)) := fun T a Q q =>
  ha T a _ fun v U1 l1 o1 => h1 U1 (a.trans l1) _ fun U2 l2 => h2 U2 ((a.trans l1).trans l2) _ fun U3 l3 => by
    obtain ⟨b, us, rfl, e1, e2⟩ := Da.tup_eq (Da.up (l2.trans l3).g o1)
    refine ⟨b, us, rfl, SqT.of (U3.sub _ _ e1), by rw [e2.length]; exact hn, fun p hp => ?_⟩
    exact q (.ref p) (U3.push p _ hp) (((l1.trans l2).trans l3).trans (U3.push_le hp)) (Da.tup upd_same (DaAll.up (U3.push_le hp).g (e2.cut lo hi)))

/-! ### tests -/
theorem eb_test {b : Bool} (h : EvD K te σ S (.bool b)) : EvB K (tTest te) σ S b := fun T a _ q => h T a _ fun v U l o => ⟨b, Da.bl_eq o, q U l⟩
theorem eb_B {b : Bool} (h : EvD K te σ S (.bool b)) : EvB K (tB te) σ S b := fun T a _ q => h T a _ fun v U l o => ⟨b, Da.bl_eq o, q U l⟩
theorem eb_yes : EvB K tYes σ S true := fun T _ _ q => q T (Le.refl T)
theorem eb_not {b : Bool} (h : EvB K t σ S b) : EvB K (tNot t) σ S (!b) := fun T a _ q => h T a _ fun U l => q U l
theorem eb_and {a b : Bool} (h1 : EvB K t σ S a) (h2 : a = true → EvB K u σ S b) : EvB K (tAnd t u) σ S (a && b) := fun T l Q q => h1 T l _ fun U l1 => by
  cases a with
  | true => exact iteT (h2 rfl U (l.trans l1) Q fun U2 l2 => q U2 (l1.trans l2))
  | false => exact iteF (q U l1)
theorem eb_or {a b : Bool} (h1 : EvB K t σ S a) (h2 : a = false → EvB K u σ S b) : EvB K (tOr t u) σ S (a || b) := fun T l Q q => h1 T l _ fun U l1 => by
  cases a with
  | true => exact iteT (q U l1)
  | false => exact iteF (h2 rfl U (l.trans l1) Q fun U2 l2 => q U2 (l1.trans l2))
theorem eb_is {a b : Bool} (h : EvB K t σ S a) (e : a = b) : EvB K t σ S b := e ▸ h
theorem ev_is {d d' : PyData} (h : EvD K te σ S d) (e : d = d') : EvD K te σ S d' := e ▸ h
theorem ev_andV {a b : Bool} (h1 : EvD K ta σ S (.bool a)) (h2 : a = true → EvD K tb σ S (.bool b)) : EvD K (tAndV ta tb) σ S (.bool (a && b)) := fun T l Q q => h1 T l _ fun v U l1 o => by
  refine ⟨a, Da.bl_eq o, ?_⟩
  cases a with
  | true => exact iteT (h2 rfl U (l.trans l1) Q fun v U2 l2 o2 => q v U2 (l1.trans l2) o2)
  | false => exact iteF (q _ U l1 (Da.bl _))
theorem ev_orV {a b : Bool} (h1 : EvD K ta σ S (.bool a)) (h2 : a = false → EvD K tb σ S (.bool b)) : EvD K (tOrV ta tb) σ S (.bool (a || b)) := fun T l Q q => h1 T l _ fun v U l1 o => by
  refine ⟨a, Da.bl_eq o, ?_⟩
  cases a with
  | true => exact iteT (q _ U l1 (Da.bl _))
  | false => exact iteF (h2 rfl U (l.trans l1) Q fun v U2 l2 o2 => q v U2 (l1.trans l2) o2)
theorem ev_notV {a : Bool} (h1 : EvD K ta σ S (.bool a)) : EvD K (tNotV ta) σ S (.bool (!a)) := fun T l Q q => h1 T l _ fun v U l1 o => ⟨a, Da.bl_eq o, q _ U l1 (Da.bl _)⟩
theorem ev_if {b : Bool} {s : Sl} (h : EvB K t σ S b) (h1 : b = true → Ev K ta σ S s) (h2 : b = false → Ev K tb σ S s) : Ev K (tIf t ta tb) σ S s := fun T l Q q => h T l _ fun U l1 => by
  cases b with
  | true => exact iteT (h1 rfl U (l.trans l1) Q fun v U2 l2 o2 => q v U2 (l1.trans l2) o2)
  | false => exact iteF (h2 rfl U (l.trans l1) Q fun v U2 l2 o2 => q v U2 (l1.trans l2) o2)
/-- the truth of a thing -/
theorem eb_truL {ds : List PyData} (h : EvD K ta σ S (.list ds)) : EvB K (fun σ H Q => ta σ H fun x H' => ∃ k, TruV K x H' k ∧ Q k H') σ S (!ds.isEmpty) := fun T a _ q => h T a _ fun v U l o => by
  obtain ⟨b, us, rfl, e1, e2⟩ := Da.lst_eq o
  refine ⟨_, .inl ⟨us, SqL.of (U.sub _ _ e1), ?_⟩, q U l⟩
  cases e2 <;> rfl

/-! ### statements -/
variable {D : Ends} {t1 t2 : TS}
theorem st_seq {T : Sit} (h : t1 { D with nx := t2 D } σ S.H) : tSeq t1 t2 D σ S.H := h
theorem st_asg {i : Nat} {s : Sl} (hE : Sv K S.G σ δ) (he : Ev K te σ S s) (k : ∀ σ' T, Le S T → Sv K T.G σ' (δ.set i s) → D.nx σ' T.H) : tAsg te (gName i) D σ S.H :=
  he S (Le.refl S) _ fun v U l o => k _ U l (Sv.set o i (hE.up l.g))
theorem st_ret {s : Sl} (he : Ev K te σ S s) (k : ∀ v T, Le S T → VOk K T.G v s → D.rt v T.H) : tRet te D σ S.H :=
  he S (Le.refl S) _ fun v U l o => k v U l o
theorem st_drop {s : Sl} (he : Ev K te σ S s) (k : ∀ T, Le S T → D.nx σ T.H) : tDrop te D σ S.H :=
  he S (Le.refl S) _ fun v U l o => k U l
theorem st_if {b : Bool} (hb : EvB K t σ S b) (h1 : b = true → ∀ T, Le S T → t1 D σ T.H) (h2 : b = false → ∀ T, Le S T → t2 D σ T.H) : tIfS t t1 t2 D σ S.H :=
  hb S (Le.refl S) _ fun U l => by
    cases b with
    | true => exact iteT (h1 rfl U l)
    | false => exact iteF (h2 rfl U l)
/-- calls whose promise tells the rest -/
theorem st_asgC {i : Nat} {sp : Sp} {dvs : List V} {E : XK} {tr : TA} {ss : List Sl} (ha : EvA K tr σ S ss) (k : ∀ vs T, Le S T → Vs K T.G vs ss → sp (vs ++ dvs) T.H (fun v H => D.nx (σ.set i (some v)) H) E) : tAsg (tCall sp dvs E tr) (gName i) D σ S.H :=
  ha S (Le.refl S) _ fun vs U l o => k vs U l o
theorem st_retC {sp : Sp} {dvs : List V} {E : XK} {tr : TA} {ss : List Sl} (ha : EvA K tr σ S ss) (k : ∀ vs T, Le S T → Vs K T.G vs ss → sp (vs ++ dvs) T.H D.rt E) : tRet (tCall sp dvs E tr) D σ S.H :=
  ha S (Le.refl S) _ fun vs U l o => k vs U l o
theorem st_dropC {sp : Sp} {dvs : List V} {E : XK} {tr : TA} {ss : List Sl} (ha : EvA K tr σ S ss) (k : ∀ vs T, Le S T → Vs K T.G vs ss → sp (vs ++ dvs) T.H (fun _ H => D.nx σ H) E) : tDrop (tCall sp dvs E tr) D σ S.H :=
  ha S (Le.refl S) _ fun vs U l o => k vs U l o
end

/-- a slot forgotten -/
theorem Sv.forget {K : PySem.W.Frag} {G : Hp} : ∀ {σ : L2.St} {δ : List Sl} (i : Nat), Sv K G σ δ → Sv K G σ (δ.set i .non)
  | _, _, _, .nil => .nil
  | _, _, 0, .cons _ t => .cons (slOk_n _) t
  | _, _, i + 1, .cons r t => .cons r (Sv.forget i t)
/-! ### targets -/
def putD (δ : List Sl) (is : List (Nat × PyData)) : List Sl := is.foldl (fun δ p => δ.set p.1 (.d p.2)) δ
def Tg (K : PySem.W.Frag) (g : TG) (d : PyData) (is : List (Nat × PyData)) : Prop := ∀ (v : V) (σ : L2.St) (T : Sit) (Q : L2.St → Hp → Prop), Da K T.G v d →
  (∀ σ', (∀ δ, Sv K T.G σ δ → Sv K T.G σ' (putD δ is)) → (∀ vs : List Nat, (∀ p ∈ is, p.1 ∈ vs) → wipe σ' vs = wipe σ vs) → Q σ' T.H) → g v σ T.H Q
theorem wipe_set {o : Option V} {i : Nat} : ∀ {vs : List Nat} {σ : L2.St}, i ∈ vs → wipe (σ.set i o) vs = wipe σ vs
  | [], _, h => nomatch h
  | v :: vs, σ, h => by
    show (wipe (σ.set i o) vs).set v none = (wipe σ vs).set v none
    by_cases hi : i ∈ vs
    · rw [wipe_set hi]
    · have e : v = i := by
        rcases List.mem_cons.mp h with z | z
        · exact z.symm
        · exact absurd z hi
      subst e
      have key : ∀ (ws : List Nat) (τ : L2.St), v ∉ ws → wipe (τ.set v o) ws = (wipe τ ws).set v o := by
        intro ws
        induction ws with
        | nil => intro τ _; rfl
        | cons w ws ih =>
          intro τ hw
          have h1 : v ≠ w := fun z => hw (by simp [z])
          have h2 : v ∉ ws := fun z => hw (by simp [z])
          show (wipe (τ.set v o) ws).set w none = ((wipe τ ws).set w none).set v o
          rw [ih τ h2, List.set_comm _ _ h1]
      rw [key vs σ hi, List.set_set]
section
variable {K : PySem.W.Frag}
theorem tg_name {i : Nat} {d : PyData} : Tg K (gName i) d [(i, d)] := fun v σ T Q h q =>
  q _ (fun δ hE => Sv.set (slOk_d h) i hE) fun vs hv => wipe_set (hv (i, d) (by simp))
theorem tg_tup2 {i j : Nat} {a b : PyData} : Tg K (gTup K 2 (gCons (gName i) (gCons (gName j) gNil))) (.tuple [a, b]) [(i, a), (j, b)] := fun v σ T Q h q => by
  obtain ⟨p, xs, rfl, h1, h2⟩ := Da.tup_eq h
  cases h2 with
  | cons e1 h2 =>
    cases h2 with
    | cons e2 h2 =>
      cases h2
      refine ⟨p, _, rfl, SqT.of (T.sub _ _ h1), rfl, _, _, rfl, _, _, rfl, rfl, ?_⟩
      refine q _ (fun δ hE => Sv.set (slOk_d e2) j (Sv.set (slOk_d e1) i hE)) fun vs hv => ?_
      rw [wipe_set (hv (j, b) (by simp)), wipe_set (hv (i, a) (by simp))]
theorem tg_tup3 {i j k : Nat} {a b c : PyData} : Tg K (gTup K 3 (gCons (gName i) (gCons (gName j) (gCons (gName k) gNil)))) (.tuple [a, b, c]) [(i, a), (j, b), (k, c)] := fun v σ T Q h q => by
  obtain ⟨p, xs, rfl, h1, h2⟩ := Da.tup_eq h
  cases h2 with
  | cons e1 h2 =>
    cases h2 with
    | cons e2 h2 =>
      cases h2 with
      | cons e3 h2 =>
        cases h2
        refine ⟨p, _, rfl, SqT.of (T.sub _ _ h1), rfl, _, _, rfl, _, _, rfl, _, _, rfl, rfl, ?_⟩
        refine q _ (fun δ hE => Sv.set (slOk_d e3) k (Sv.set (slOk_d e2) j (Sv.set (slOk_d e1) i hE))) fun vs hv => ?_
        rw [wipe_set (hv (k, c) (by simp)), wipe_set (hv (j, b) (by simp)), wipe_set (hv (i, a) (by simp))]
/-- target = value, the target of any form -/
theorem st_asgG {g : TG} {te : TE} {d : PyData} {is : List (Nat × PyData)} {σ : L2.St} {S : Sit} {δ : List Sl} {D : Ends} (hE : Sv K S.G σ δ) (he : EvD K te σ S d) (hg : Tg K g d is) (k : ∀ σ' T, Le S T → Sv K T.G σ' (putD δ is) → D.nx σ' T.H) : tAsg te g D σ S.H :=
  he S (Le.refl S) _ fun v U l o => hg v σ U _ o fun σ' h1 _ => k σ' U l (h1 δ (hE.up l.g))
end

/-! ### what is walked -/
def ItD (K : PySem.W.Frag) (J : It) (S : Sit) (ds : List PyData) : Prop := ∀ T : Sit, Same S.G T.G →
  (∀ i, i < ds.length → J.go i T.H) ∧ J.stop ds.length T.H ∧ ∀ i d x H', ds[i]? = some d → J.yld i T.H x H' → H' = T.H ∧ Da K T.G x d
def EvI (K : PySem.W.Frag) (wi : TI) (σ : L2.St) (S : Sit) (ds : List PyData) : Prop := ∀ T, Le S T → ∀ R : It → Hp → Prop, (∀ J U, Le T U → ItD K J U ds → R J U.H) → wi σ T.H R
section
variable {K : PySem.W.Frag} {σ : L2.St} {S : Sit} {δ : List Sl} {te : TE} {ta : TA}
theorem ei_list {ds : List PyData} (h : EvD K te σ S (.list ds)) : EvI K (iList K te) σ S ds := fun T a R q => h T a _ fun v U l o => by
  obtain ⟨b, us, rfl, e1, e2⟩ := Da.lst_eq o
  refine ⟨b, rfl, ⟨us, SqL.of (U.sub _ _ e1)⟩, q _ U l fun V g => ?_⟩
  have hs : SqL K V.H b us := SqL.of (V.sub _ _ (g _ _ e1))
  refine ⟨fun i hi => ?_, ⟨us, hs, by rw [e2.length]; exact Nat.le_refl _⟩, fun i d x H' hd hy => ?_⟩
  · obtain ⟨v, h1, _⟩ := e2.get (List.getElem?_eq_getElem hi)
    exact ⟨us, v, hs, h1⟩
  · obtain ⟨h1, h2⟩ := hy
    obtain ⟨v, h3, h4⟩ := e2.get hd
    have h5 := h2 us hs
    rw [h3] at h5
    cases h5
    exact ⟨h1, Da.up g h4⟩
theorem ei_tup {ds : List PyData} (h : EvD K te σ S (.tuple ds)) : EvI K (iTup K te) σ S ds := fun T a R q => h T a _ fun v U l o => by
  obtain ⟨b, us, rfl, e1, e2⟩ := Da.tup_eq o
  refine ⟨b, rfl, ⟨us, SqT.of (U.sub _ _ e1)⟩, q _ U l fun V g => ?_⟩
  have hs : SqT K V.H b us := SqT.of (V.sub _ _ (g _ _ e1))
  refine ⟨fun i hi => ?_, ⟨us, hs, by rw [e2.length]; exact Nat.le_refl _⟩, fun i d x H' hd hy => ?_⟩
  · obtain ⟨v, h1, _⟩ := e2.get (List.getElem?_eq_getElem hi)
    exact ⟨us, v, hs, h1⟩
  · obtain ⟨h1, h2⟩ := hy
    obtain ⟨v, h3, h4⟩ := e2.get hd
    have h5 := h2 us hs
    rw [h3] at h5
    cases h5
    exact ⟨h1, Da.up g h4⟩
def rngD (lo : Int) (n : Nat) : List PyData := (List.range n).map fun k => PyData.int (lo + (k : Nat))
theorem rngD_len (lo : Int) (n : Nat) : (rngD lo n).length = n := by unfold rngD; simp
theorem rngD_get {lo : Int} {n i : Nat} {d : PyData} (h : (rngD lo n)[i]? = some d) : i < n ∧ d = .int (lo + (i : Nat)) := by
  unfold rngD at h
  rw [List.getElem?_map] at h
  by_cases hi : i < n
  · rw [List.getElem?_range hi] at h
    exact ⟨hi, (Option.some.inj h).symm⟩
  · rw [List.getElem?_eq_none (by simpa using hi)] at h
    cases h
theorem itD_rng {lo : Int} {n : Nat} : ItD K (Itr lo n) S (rngD lo n) := fun T _ => by
  refine ⟨fun i hi => ?_, ?_, fun i d x H' hd hy => ?_⟩
  · show i < n
    rwa [rngD_len] at hi
  · show n ≤ (rngD lo n).length
    rw [rngD_len]; exact Nat.le_refl _
  · obtain ⟨h1, h2⟩ := hy
    obtain ⟨_, rfl⟩ := rngD_get hd
    subst h2
    exact ⟨h1, Da.int _⟩
theorem ei_rng1 {j : Int} (h : EvA K ta σ S [.d (.int j)]) (h1 : -(2 ^ 62) ≤ j) (h2 : j < 2 ^ 62) : EvI K (iRng1 ta) σ S (rngD 0 j.toNat) := fun T a R q => h T a _ fun vs U l o => by
  cases o with
  | cons o1 o2 =>
    cases o2
    have ev := Da.int_eq o1
    subst ev
    exact ⟨j, rfl, h1, h2, q _ U l itD_rng⟩
theorem ei_rng2 {i j : Int} (h : EvA K ta σ S [.d (.int i), .d (.int j)]) (h1 : -(2 ^ 62) ≤ i ∧ i < 2 ^ 62 ∧ -(2 ^ 62) ≤ j ∧ j < 2 ^ 62) : EvI K (iRng2 ta) σ S (rngD i (j - i).toNat) := fun T a R q => h T a _ fun vs U l o => by
  cases o with
  | cons o1 o2 =>
    cases o2 with
    | cons o2 o3 =>
      cases o3
      have ev := Da.int_eq o1
      have ev2 := Da.int_eq o2
      subst ev ev2
      exact ⟨i, j, rfl, h1, q _ U l itD_rng⟩
def signsD (x : Str) : List PyData := x.cps.toList.map fun c => PyData.str ⟨#[c]⟩
theorem ei_str {x : Str} (h : EvD K te σ S (.str x)) : EvI K (iStr te) σ S (signsD x) := fun T a R q => h T a _ fun v U l o => by
  have ev := Da.str_eq o
  subst ev
  refine ⟨x, rfl, q _ U l fun V g => ⟨fun i hi => ?_, ?_, fun i d y H' hd hy => ?_⟩⟩
  · show i < x.cps.size
    unfold signsD at hi
    simpa using hi
  · show x.cps.size ≤ (signsD x).length
    unfold signsD
    simp
  · obtain ⟨h1, c, h2, h3⟩ := hy
    unfold signsD at hd
    rw [List.getElem?_map, Array.getElem?_toList, h2] at hd
    have e := Option.some.inj hd
    subst e h3
    exact ⟨h1, Da.str _⟩

/-! ### for -/
theorem st_for {wi : TI} {g : TG} {tb : TS} {D : Ends} {ds : List PyData} (hi : EvI K wi σ S ds) (I : Sit → Nat → L2.St → Sit → Prop) (h0 : ∀ U, Le S U → I U 0 σ U)
    (hs : ∀ U n d σ' T v, Le S U → ds[n]? = some d → Same U.G T.G → I U n σ' T → Da K T.G v d →
      g v σ' T.H fun σ2 H2 => tb { D with nx := fun σ3 H3 => ∃ T', T'.H = H3 ∧ Same T.G T'.G ∧ I U (n + 1) σ3 T', ct := fun σ3 H3 => ∃ T', T'.H = H3 ∧ Same T.G T'.G ∧ I U (n + 1) σ3 T', bk := D.nx } σ2 H2)
    (hd : ∀ U σ' T, Le S U → Same U.G T.G → I U ds.length σ' T → D.nx σ' T.H) : tFor wi g tb D σ S.H :=
  hi S (Le.refl S) _ fun J U l hJ => by
    refine ⟨fun i m σ' H => m = ds.length - i ∧ i ≤ ds.length ∧ ∃ T : Sit, T.H = H ∧ Same U.G T.G ∧ I U i σ' T, ⟨ds.length, by simp, Nat.zero_le _, U, rfl, Same.refl _, h0 U l⟩, ?_⟩
    rintro i m σ' H ⟨rfl, hle, T, rfl, hG, hI⟩
    obtain ⟨j1, j2, j3⟩ := hJ T hG
    by_cases hlt : i < ds.length
    · refine .inr ⟨j1 i hlt, fun σ3 H3 => ∃ T', T'.H = H3 ∧ Same T.G T'.G ∧ I U (i + 1) σ3 T', fun σ3 H3 hN => ?_, fun x H' hy => ?_⟩
      · obtain ⟨T', e, g1, g2⟩ := hN
        exact ⟨ds.length - (i + 1), by omega, rfl, hlt, T', e, hG.trans g1, g2⟩
      · obtain ⟨e, hx⟩ := j3 i _ x H' (List.getElem?_eq_getElem hlt) hy
        subst e
        exact hs U i _ σ' T x l (List.getElem?_eq_getElem hlt) hG hI hx
    · have e : i = ds.length := by omega
      subst e
      exact .inl ⟨j2, hd U σ' T l hG hI⟩

/-- .. over things of one kind -/
theorem st_forT {α : Type} {xs : List α} {enc : α → PyData} {wi : TI} {g : TG} {tb : TS} {D : Ends} (hi : EvI K wi σ S (xs.map enc)) (I : Sit → Nat → L2.St → Sit → Prop) (h0 : ∀ U, Le S U → I U 0 σ U)
    (hs : ∀ U n x σ' T v, Le S U → xs[n]? = some x → Same U.G T.G → I U n σ' T → Da K T.G v (enc x) →
      g v σ' T.H fun σ2 H2 => tb { D with nx := fun σ3 H3 => ∃ T', T'.H = H3 ∧ Same T.G T'.G ∧ I U (n + 1) σ3 T', ct := fun σ3 H3 => ∃ T', T'.H = H3 ∧ Same T.G T'.G ∧ I U (n + 1) σ3 T', bk := D.nx } σ2 H2)
    (hd : ∀ U σ' T, Le S U → Same U.G T.G → I U xs.length σ' T → D.nx σ' T.H) : tFor wi g tb D σ S.H := by
  refine st_for hi I h0 (fun U n d σ' T v l hd hG hI hv => ?_) (fun U σ' T l hG hI => hd U σ' T l hG (by rwa [List.length_map] at hI))
  rw [List.getElem?_map] at hd
  cases e : xs[n]? with
  | none => rw [e] at hd; cases hd
  | some x =>
    rw [e] at hd
    have e2 := Option.some.inj hd
    subst e2
    exact hs U n x σ' T v l e hG hI hv

/-! ### comprehensions -/
theorem ev_lc {α : Type} {xs : List α} {enc : α → PyData} {wi : TI} {g : TG} {tt : TT} {vs : List Nat} (hE : Sv K S.G σ δ) (hi : EvI K wi σ S (xs.map enc)) (tgs : α → List (Nat × PyData)) (p : α → Bool) (f : α → PyData)
    (hg : ∀ x ∈ xs, Tg K g (enc x) (tgs x)) (hv : ∀ x ∈ xs, ∀ q ∈ tgs x, q.1 ∈ vs)
    (ht : ∀ x ∈ xs, ∀ σ' T, Le S T → Sv K T.G σ' (putD (vs.foldr (fun i δ => δ.set i .non) δ) (tgs x)) → EvB K tt σ' T (p x))
    (he : ∀ x ∈ xs, p x = true → ∀ σ' T, Le S T → Sv K T.G σ' (putD (vs.foldr (fun i δ => δ.set i .non) δ) (tgs x)) → EvD K te σ' T (f x)) (hn : xs.length ≤ 900000) :
    EvD K (tLc wi g tt te vs) σ S (.list ((xs.filter p).map f)) := fun T0 a0 Q q =>
  hi T0 a0 _ fun J U l hJ X hX => by
    have lSU : Le S U := a0.trans l
    have hlen : (xs.map enc).length = xs.length := List.length_map _
    let I : Nat → Hp → Prop := fun i H => ∃ (T : Sit) (acc : List V), T.H = H ∧ Le U T ∧ T.G X = none ∧ H X = some (.lst acc) ∧ DaAll K T.G acc (((xs.take i).filter p).map f)
    refine ⟨fun i m H => m = xs.length - i ∧ i ≤ xs.length ∧ I i H, ⟨xs.length, by simp, Nat.zero_le _, U.pushM X _ hX, [], rfl, U.pushM_le hX, U.gfree hX, upd_same, .nil⟩, ?_⟩
    rintro i m H ⟨rfl, hle, T, acc, rfl, lU, gX, eX, dX⟩
    obtain ⟨j1, j2, j3⟩ := hJ T lU.g
    by_cases hlt : i < xs.length
    · have hget : (xs.map enc)[i]? = some (enc xs[i]) := by rw [List.getElem?_map, List.getElem?_eq_getElem hlt]; rfl
      have hmem : xs[i] ∈ xs := List.getElem_mem hlt
      have htake : xs.take (i + 1) = xs.take i ++ [xs[i]] := by rw [List.take_add_one, List.getElem?_eq_getElem hlt]; rfl
      refine .inr ⟨j1 i (by rw [hlen]; exact hlt), I (i + 1), fun H' hN => ⟨xs.length - (i + 1), by omega, rfl, hlt, hN⟩, fun x H' hy => ?_⟩
      obtain ⟨e, hx⟩ := j3 i _ x H' hget hy
      subst e
      refine hg _ hmem x _ T _ hx fun σ' h1 h2 => ⟨(h2 vs (hv _ hmem)).trans ?_, ?_⟩
      · have idem : ∀ (ws : List Nat) (τ : L2.St), (∀ w ∈ ws, w ∈ vs) → wipe (wipe τ ws) vs = wipe τ vs := by
          intro ws
          induction ws with
          | nil => intro τ _; rfl
          | cons w ws ih =>
            intro τ hw
            show wipe ((wipe τ ws).set w none) vs = wipe τ vs
            rw [wipe_set (hw w (by simp)), ih τ fun z hz => hw z (by simp [hz])]
        exact idem vs σ fun w hw => hw
      · have hE' : Sv K T.G σ' (putD (vs.foldr (fun i δ => δ.set i .non) δ) (tgs xs[i])) := h1 _ ((hE.up (lSU.trans lU).g).wipe vs)
        have lST : Le S T := lSU.trans lU
        refine ht _ hmem σ' T lST hE' T (Le.refl T) _ fun V lV => ?_
        have gXV : V.G X = none := (lV.2.2 X _ eX).trans gX
        have eXV : V.H X = some (.lst acc) := lV.2.1 X _ eX
        cases hp : p xs[i] with
        | false =>
          refine iteF ⟨V, acc, rfl, lU.trans lV, gXV, eXV, ?_⟩
          rw [htake, List.filter_append, List.map_append, List.filter_cons, hp]
          simpa using DaAll.up lV.g dX
        | true =>
          refine iteT (he _ hmem hp σ' V (lST.trans lV) (hE'.up lV.g) V (Le.refl V) _ fun y W lW oW => ?_)
          have gXW : W.G X = none := (lW.2.2 X _ eXV).trans gXV
          have eXW : W.H X = some (.lst acc) := lW.2.1 X _ eXV
          have lUW : Le U W := (lU.trans lV).trans lW
          have hacc : acc.length ≤ 900000 := by
            rw [dX.length, List.length_map]
            refine Nat.le_trans (List.length_filter_le _ _) ?_
            rw [List.length_take]
            exact Nat.le_trans (Nat.min_le_right _ _) hn
          refine ⟨acc, eXW, szl (by omega), W.mut X _ gXW, acc ++ [y], rfl, ⟨lUW.1, fun b o hb => ?_, lUW.2.2⟩, gXW, upd_same, ?_⟩
          · show upd W.H X _ b = some o
            have nb : b ≠ X := fun z => by rw [z, hX] at hb; cases hb
            rw [upd_ne nb]
            exact lUW.2.1 b o hb
          · rw [htake, List.filter_append, List.map_append, List.filter_cons, hp]
            exact (DaAll.up (lV.trans lW).g dX).append (.cons oW .nil)
    · have e : i = xs.length := by omega
      subst e
      refine .inl ⟨by rw [hlen] at j2; exact j2, ?_⟩
      refine q (.ref X) (T.freeze X _ eX) (l.trans ⟨fun b o hb => ?_, lU.2.1, fun b o hb => ?_⟩) ?_
      · show upd T.G X _ b = some o
        have nb : b ≠ X := fun z => by
          have := U.sub b o hb
          rw [z, hX] at this; cases this
        rw [upd_ne nb]
        exact lU.1 b o hb
      · show upd T.G X _ b = U.G b
        have nb : b ≠ X := fun z => by rw [z, hX] at hb; cases hb
        rw [upd_ne nb]
        exact lU.2.2 b o hb
      · rw [List.take_length] at dX
        exact Da.lst upd_same (DaAll.up (T.freeze_g eX gX) dX)
/-- .. all of them -/
theorem ev_lcm {α : Type} {xs : List α} {enc : α → PyData} {wi : TI} {g : TG} {vs : List Nat} (hE : Sv K S.G σ δ) (hi : EvI K wi σ S (xs.map enc)) (tgs : α → List (Nat × PyData)) (f : α → PyData)
    (hg : ∀ x ∈ xs, Tg K g (enc x) (tgs x)) (hv : ∀ x ∈ xs, ∀ q ∈ tgs x, q.1 ∈ vs)
    (he : ∀ x ∈ xs, ∀ σ' T, Le S T → Sv K T.G σ' (putD (vs.foldr (fun i δ => δ.set i .non) δ) (tgs x)) → EvD K te σ' T (f x)) (hn : xs.length ≤ 900000) :
    EvD K (tLc wi g tYes te vs) σ S (.list (xs.map f)) := by
  have h := ev_lc hE hi tgs (fun _ => true) f hg hv (fun _ _ _ _ _ _ => eb_yes) (fun x hx _ => he x hx) hn
  rw [List.filter_eq_self.mpr fun _ _ => rfl] at h
  exact h
end
end MW

set_option linter.all false
set_option maxRecDepth 100000
namespace MW
/-! ### places in order -/
abbrev Pl := Int × Int
def plt (a b : Pl) : Prop := a.1 < b.1 ∨ (a.1 = b.1 ∧ a.2 < b.2)
instance (a b : Pl) : Decidable (plt a b) := by unfold plt; infer_instance
theorem plt_irr (a : Pl) : ¬ plt a a := by unfold plt; omega
theorem plt_trans {a b c : Pl} (h : plt a b) (k : plt b c) : plt a c := by unfold plt at *; omega
theorem plt_asymm {a b : Pl} (h : plt a b) : ¬ plt b a := by unfold plt at *; omega
theorem plt_tri (a b : Pl) : plt a b ∨ a = b ∨ plt b a := by
  unfold plt
  obtain ⟨x, y⟩ := a
  obtain ⟨z, w⟩ := b
  simp only [Prod.mk.injEq]
  omega
def ins (p : Pl) : List Pl → List Pl
  | [] => [p]
  | q :: r => if plt p q then p :: q :: r else if p = q then q :: r else q :: ins p r
def sd : List Pl → List Pl
  | [] => []
  | p :: r => ins p (sd r)
theorem mem_ins {p a : Pl} : ∀ {l : List Pl}, a ∈ ins p l ↔ a = p ∨ a ∈ l
  | [] => by simp [ins]
  | q :: r => by
    unfold ins
    by_cases h : plt p q
    · rw [if_pos h]; simp
    · rw [if_neg h]
      by_cases e : p = q
      · rw [if_pos e]; subst e; simp
      · rw [if_neg e, List.mem_cons, mem_ins (l := r), List.mem_cons]
        constructor
        · rintro (h1 | h1 | h1)
          · exact .inr (.inl h1)
          · exact .inl h1
          · exact .inr (.inr h1)
        · rintro (h1 | h1 | h1)
          · exact .inr (.inl h1)
          · exact .inl h1
          · exact .inr (.inr h1)
theorem ins_sorted {p : Pl} : ∀ {l : List Pl}, l.Pairwise plt → (ins p l).Pairwise plt
  | [], _ => by simp [ins]
  | q :: r, h => by
    obtain ⟨h1, h2⟩ := List.pairwise_cons.mp h
    unfold ins
    by_cases k : plt p q
    · rw [if_pos k]
      refine List.pairwise_cons.mpr ⟨fun a ha => ?_, h⟩
      rcases List.mem_cons.mp ha with e | e
      · rw [e]; exact k
      · exact plt_trans k (h1 a e)
    · rw [if_neg k]
      by_cases e : p = q
      · rw [if_pos e]; exact h
      · rw [if_neg e]
        refine List.pairwise_cons.mpr ⟨fun a ha => ?_, ins_sorted h2⟩
        rcases mem_ins.mp ha with z | z
        · subst z
          rcases plt_tri a q with y | y | y
          · exact absurd y k
          · exact absurd y e
          · exact y
        · exact h1 a z
theorem mem_sd {a : Pl} : ∀ {l : List Pl}, a ∈ sd l ↔ a ∈ l
  | [] => Iff.rfl
  | p :: r => by rw [sd, mem_ins, mem_sd (l := r), List.mem_cons]
theorem sd_sorted : ∀ l : List Pl, (sd l).Pairwise plt
  | [] => List.Pairwise.nil
  | p :: r => ins_sorted (sd_sorted r)
/-- two rising lists of the same places are one -/
theorem rise_uniq : ∀ {l l' : List Pl}, l.Pairwise plt → l'.Pairwise plt → (∀ a, a ∈ l ↔ a ∈ l') → l = l'
  | [], [], _, _, _ => rfl
  | [], b :: r, _, _, h => absurd ((h b).mpr (by simp)) (by simp)
  | a :: r, [], _, _, h => absurd ((h a).mp (by simp)) (by simp)
  | a :: r, b :: s, h1, h2, h => by
    obtain ⟨p1, p2⟩ := List.pairwise_cons.mp h1
    obtain ⟨q1, q2⟩ := List.pairwise_cons.mp h2
    have e : a = b := by
      rcases List.mem_cons.mp ((h a).mp (by simp)) with e | e
      · exact e
      · rcases List.mem_cons.mp ((h b).mpr (by simp)) with e2 | e2
        · exact e2.symm
        · exact absurd (p1 b e2) (plt_asymm (q1 a e))
    subst e
    have : r = s := rise_uniq p2 q2 fun c => by
      constructor
      · intro hc
        rcases List.mem_cons.mp ((h c).mp (List.mem_cons_of_mem _ hc)) with e | e
        · subst e; exact absurd (p1 c hc) (plt_irr c)
        · exact e
      · intro hc
        rcases List.mem_cons.mp ((h c).mpr (List.mem_cons_of_mem _ hc)) with e | e
        · subst e; exact absurd (q1 c hc) (plt_irr c)
        · exact e
    rw [this]
theorem sd_uniq {l l' : List Pl} (h : l'.Pairwise plt) (hm : ∀ a, a ∈ l' ↔ a ∈ l) : l' = sd l := rise_uniq h (sd_sorted l) fun a => by rw [hm, mem_sd]
theorem sd_id {l : List Pl} (h : l.Pairwise plt) : sd l = l := (sd_uniq h fun _ => Iff.rfl).symm
theorem sd_rise {l : List Pl} (h : sd l = l) : l.Pairwise plt := by rw [← h]; exact sd_sorted l
/-! ### marks -/
abbrev Mk := Int × Int × Int
def plOf (m : Mk) : Pl := (m.1, m.2.1)
def markOk (n : Nat) (m : Mk) : Bool := (decide (0 - 100 ≤ m.1) && decide (m.1 ≤ 100)) && ((decide (0 - 100 ≤ m.2.1) && decide (m.2.1 ≤ 100)) && (decide (1 ≤ m.2.2) && decide (m.2.2 < (n : Int))))
def floorOk (n : Nat) (fl : List Mk) : Bool := decide (fl.length ≤ 200) && (fl.all (markOk n) && decide (sd (fl.map plOf) = fl.map plOf))
end MW

set_option Elab.async false
set_option linter.all false
set_option maxRecDepth 100000
namespace MW
open PySem PySem.Spec PyProof.Rows L2
def eP (p : Pl) : PyData := .tuple [.int p.1, .int p.2]
def eM (m : Mk) : PyData := .tuple [.int m.1, .int m.2.1, .int m.2.2]
/-! ### forms that may be compared -/
def Shp (n : Nat) (d : PyData) : Prop := d.canLay0 = true ∧ d.depth ≤ n
theorem Shp.to {n : Nat} {d : PyData} (h : Shp n d) (hn : n ≤ 64) : SeqAt.shaped d = true := by
  unfold SeqAt.shaped
  rw [h.1, decide_eq_true (Nat.le_trans h.2 hn)]
  rfl
theorem Shp.up {n m : Nat} {d : PyData} (h : Shp n d) (hn : n ≤ m) : Shp m d := ⟨h.1, Nat.le_trans h.2 hn⟩
theorem shp_int (i : Int) : Shp 0 (.int i) := ⟨rfl, Nat.le_refl _⟩
theorem shp_non : Shp 0 .none := ⟨rfl, Nat.le_refl _⟩
theorem shp_bl (b : Bool) : Shp 0 (.bool b) := ⟨rfl, Nat.le_refl _⟩
theorem shp_all {n : Nat} : ∀ {ds : List PyData}, (∀ d ∈ ds, Shp n d) → PyData.canLayAll0 ds = true ∧ PyData.depthAll ds ≤ n
  | [], _ => ⟨rfl, Nat.zero_le _⟩
  | d :: ds, h => by
    obtain ⟨h1, h2⟩ := h d (by simp)
    obtain ⟨h3, h4⟩ := shp_all (ds := ds) fun x hx => h x (List.mem_cons_of_mem _ hx)
    refine ⟨?_, ?_⟩
    · show (d.canLay0 && PyData.canLayAll0 ds) = true
      rw [h1, h3]; rfl
    · show max d.depth (PyData.depthAll ds) ≤ n
      exact Nat.max_le.mpr ⟨h2, h4⟩
theorem shp_list {n : Nat} {ds : List PyData} (h : ∀ d ∈ ds, Shp n d) : Shp (n + 1) (.list ds) := ⟨(shp_all h).1, Nat.succ_le_succ (shp_all h).2⟩
theorem shp_tup {n : Nat} {ds : List PyData} (h : ∀ d ∈ ds, Shp n d) : Shp (n + 1) (.tuple ds) := ⟨(shp_all h).1, Nat.succ_le_succ (shp_all h).2⟩
theorem shp_P (p : Pl) : Shp 1 (eP p) := shp_tup fun d hd => by
  simp at hd
  rcases hd with e | e <;> (subst e; exact shp_int _)
theorem shp_M (m : Mk) : Shp 1 (eM m) := shp_tup fun d hd => by
  simp at hd
  rcases hd with e | e | e <;> (subst e; exact shp_int _)
theorem shp_map {α : Type} {n : Nat} {enc : α → PyData} (h : ∀ a, Shp n (enc a)) (xs : List α) : Shp (n + 1) (.list (xs.map enc)) := shp_list fun d hd => by
  obtain ⟨a, _, rfl⟩ := List.mem_map.mp hd
  exact h a
/-! ### when they are equal -/
theorem eqv_ints (i j : Int) : PyData.eqv (.int i) (.int j) = decide (i = j) := by
  show (i == j) = _
  rw [Bool.beq_eq_decide_eq]
theorem eqv_P (p q : Pl) : PyData.eqv (eP p) (eP q) = decide (p = q) := by
  obtain ⟨a, b⟩ := p
  obtain ⟨c, d⟩ := q
  show (PyData.eqv (.int a) (.int c) && (PyData.eqv (.int b) (.int d) && true)) = _
  rw [eqv_ints, eqv_ints]
  simp [Prod.mk.injEq]
theorem eqv_M (p q : Mk) : PyData.eqv (eM p) (eM q) = decide (p = q) := by
  obtain ⟨a, b, e⟩ := p
  obtain ⟨c, d, f⟩ := q
  show (PyData.eqv (.int a) (.int c) && (PyData.eqv (.int b) (.int d) && (PyData.eqv (.int e) (.int f) && true))) = _
  rw [eqv_ints, eqv_ints, eqv_ints]
  simp [Prod.mk.injEq]
theorem eqvAll_map {α : Type} [DecidableEq α] {enc : α → PyData} (h : ∀ a b, PyData.eqv (enc a) (enc b) = decide (a = b)) : ∀ l l' : List α, PyData.eqvAll (l.map enc) (l'.map enc) = decide (l = l')
  | [], [] => rfl
  | [], _ :: _ => rfl
  | _ :: _, [] => rfl
  | a :: l, b :: l' => by
    show (PyData.eqv (enc a) (enc b) && PyData.eqvAll (l.map enc) (l'.map enc)) = _
    rw [h, eqvAll_map h l l']
    simp
theorem eqv_lists {α : Type} [DecidableEq α] {enc : α → PyData} (h : ∀ a b, PyData.eqv (enc a) (enc b) = decide (a = b)) (l l' : List α) : PyData.eqv (.list (l.map enc)) (.list (l'.map enc)) = decide (l = l') := eqvAll_map h l l'
end MW

set_option Elab.async false
set_option linter.all false
set_option maxRecDepth 100000
set_option maxHeartbeats 2000000
namespace MW
open PySem PySem.Spec PyProof.Rows L2
open PySem.W (EachIs AllAlike Sortable dataLe)
/-! ### sorted(xs), xs a list of data -/
abbrev srt (ds : List PyData) : List PyData := ds.mergeSort (dataLe false id)
theorem each_vals {R : V → PyData → Prop} : ∀ {us : List Value} {ds : List PyData}, EachIs (fun u d => ∃ x, RelV x u ∧ R x d) us ds → ∃ ys, Vals ys us ∧ Paired R ys ds
  | _, _, .nil => ⟨[], .nil, .nil⟩
  | _, _, .cons ⟨x, r, h⟩ t => by
    obtain ⟨ys, a, b⟩ := each_vals t
    exact ⟨x :: ys, .cons r a, .cons h b⟩
theorem each_zip {H : Hp} {K : PySem.W.Frag} : ∀ {xs : List V} {us : List Value} {ds : List PyData}, Vals xs us → DpAll K H xs ds → EachIs (fun u d => ∃ x, RelV x u ∧ (x, d) ∈ xs.zip ds) us ds
  | _, _, _, .nil, .nil => .nil
  | x :: xs, u :: us, d :: ds, .cons r t, .cons h q => .cons ⟨x, r, by simp⟩ ((each_zip t q).mono fun _ _ ⟨y, a, b⟩ => ⟨y, a, by simp [b]⟩)
theorem each_dp {X : Cx} {pins : List (Addr × Obj)} {σ : L2.St} {H : Hp} {s : Shared} (I : Inv X pins σ H s) : ∀ {xs : List V} {us : List Value} {ds : List PyData}, Vals xs us → DpAll X.K H xs ds → EachIs (fun u d => ∃ as, Reads s.heap u (id d) as) us ds
  | _, _, _, .nil, .nil => .nil
  | x :: xs, u :: us, d :: ds, .cons r t, .cons h q => .cons (Dp.reads I d x u h r) (each_dp I t q)
def rSortD (K : PySem.W.Frag) : List V → Hp → VK → Prop := fun vs H Q => ∃ (a : Addr) (xs : List V) (ds : List PyData), vs = [.ref a] ∧ SqL K H a xs ∧ DpAll K H xs ds ∧ AllAlike ds ∧ Sortable ds ∧ (∀ d ∈ ds, d.depth ≤ 60) ∧
  ∀ ys p, Paired (fun y d => (y, d) ∈ xs.zip ds) ys (srt ds) → H p = none → Q (.ref p) (upd H p (.lst ys))
theorem kr_sortD {X : Cx} {K : PySem.W.Frag} (hu : X.A.units + 64 < cLine) (hK : X.K = K := by rfl) : CallR X (.builtin "sorted") (rSortD K) := by
  subst hK
  intro pins s σ H vs us Q I r h
  obtain ⟨a, xs, ds, rfl, hs, hd, al, so, dp, q⟩ := h
  obtain ⟨its, rv, hl, hz⟩ := I.list hs
  rw [Vals.ref1 r]
  have le : ds.length = its.length := (each_dp I rv hd).length.symm
  have lx : xs.length = its.length := rv.length
  refine PySem.W.sorted_data (enc := id) (bs := ds) hl.isList (each_zip rv hd) (each_dp I rv hd) (by simpa using al) (by simpa using so) (by rw [le, ← lx]; exact hz) (fun d hd => by have := dp d hd; show _ + d.depth < _; omega) fun out lo eo => ?_
  obtain ⟨ys, v1, v2⟩ := each_vals (R := fun y d => (y, d) ∈ xs.zip ds) eo
  obtain ⟨ep, he⟩ := PyProof.Rows.sortedAll_at s.heap its (List.toArray out)
  refine ⟨.ref _, upd H (s.heap.objs.size + 1) (.lst ys), I.laid (t' := s.toks) (fun _ _ => PyProof.Rows.sortedAll_old) (Nat.le_succ _) ⟨?_, out, ep, v1, he⟩, rfl, q ys _ v2 (I.hok.fresh (Nat.le_succ _))⟩
  rw [v1.length, lo, le, ← lx]
  exact hz
theorem da_zip {K : PySem.W.Frag} {G : Hp} : ∀ {xs : List V} {ds : List PyData}, DaAll K G xs ds → ∀ {x : V} {d : PyData}, (x, d) ∈ xs.zip ds → Da K G x d
  | _, _, .nil, _, _, h => nomatch h
  | y :: ys, e :: es, .cons a t, x, d, h => by
    simp only [List.zip_cons_cons, List.mem_cons, Prod.mk.injEq] at h
    rcases h with ⟨rfl, rfl⟩ | h
    · exact a
    · exact da_zip t h
theorem da_paired {K : PySem.W.Frag} {G : Hp} : ∀ {ys : List V} {es : List PyData}, Paired (fun y d => Da K G y d) ys es → DaAll K G ys es
  | _, _, .nil => .nil
  | _, _, .cons a t => .cons a (da_paired t)
section
variable {K : PySem.W.Frag} {σ : L2.St} {S : Sit} {ta : TE}
theorem ev_sortD {ds : List PyData} (ha : EvD K ta σ S (.list ds)) (al : AllAlike ds) (so : Sortable ds) (dp : ∀ d ∈ ds, d.depth ≤ 60) : EvD K (tCB (rSortD K) (tCons ta tNil)) σ S (.list (srt ds)) :=
  ev_cb1 ha fun T x l hx Q q => by
    obtain ⟨a, xs, rfl, h1, h2⟩ := Da.lst_eq hx
    refine ⟨a, xs, ds, rfl, SqL.of (T.sub _ _ h1), ?_, al, so, dp, fun ys p hp hn => ?_⟩
    · have z := (Da.up T.sub (Da.lst h1 h2)).dp
      cases z with
      | lst q1 q2 =>
        exact DaAll.dp (DaAll.up T.sub h2)
    · refine q (.ref p) (T.push p _ hn) (T.push_le hn) (Da.lst upd_same (DaAll.up (T.push_le hn).g (da_paired ?_)))
      exact Paired.mapP hp fun y d z => da_zip h2 z
end
/-- typed -/
theorem srt_map {β : Type} (enc : β → PyData) (bs : List β) : srt (bs.map enc) = (bs.mergeSort (dataLe false enc)).map enc := by
  unfold srt
  rw [List.map_mergeSort]
  intro a _ b _
  rfl
/-! ### set(xs), sorted(set(xs)) -/
def SetW (P : Program) (w : World) (a : Addr) (L : List (Addr × List Int)) : HO := .ext fun h => ∃ (es : Array (Int × Value)) (ep : Nat) (t : SetTable), (∃ o, h.get? a = some o ∧ o.ExactSet ∧ o.data = .set es ep t) ∧ es.toList = rowsOf P w L ∧ t.fits es.size = true ∧ Ris t.place.toList ∧ (w.params.followText "set-order" = true ∨ t.led = true)
def rSetP (K : PySem.W.Frag) (P : Program) (w : World) : List V → Hp → VK → Prop := fun xs H Q => ∃ (l : Addr) (ks : List (Addr × List Int)), xs = [V.ref l] ∧ SqL K H l (ks.map fun p => V.ref p.1) ∧ (∀ p ∈ ks, SqT K H p.1 (p.2.map V.int)) ∧ ks.length < 300 ∧
  ∀ a L, H a = none → (∀ p ∈ L, p ∈ ks) → (∀ p ∈ ks, p.2 ∈ L.map (·.2)) → (L.map (·.2)).Nodup → L.length < 300 → Q (.ref a) (upd H a (SetW P w a L))
def encT (p : Addr × List Int) : PyData := .tuple (p.2.map .int)
def rSortS (K : PySem.W.Frag) (P : Program) (w : World) : List V → Hp → VK → Prop := fun vs H Q => ∃ (a : Addr) (L : List (Addr × List Int)), vs = [V.ref a] ∧ H a = some (SetW P w a L) ∧ (∀ p ∈ L, SqT K H p.1 (p.2.map V.int)) ∧ L.length < 300 ∧ (∀ p ∈ L, p.2 ≠ []) ∧ (L.map (·.2)).Nodup ∧
  ∀ (L1 : List (Addr × List Int)) (p : Addr), L1.Perm L → H p = none → Q (.ref p) (upd H p (.lst ((L1.mergeSort (dataLe false encT)).map fun q => V.ref q.1)))
section
variable {X : Cx} {K : PySem.W.Frag}
theorem kr_setP (hc : X.calm = true) (hu : X.A.units + 64 < cLine) {P : Program} {w : World} (hK : X.K = K := by rfl) (hP : X.prog = P := by rfl) (hw : X.w = w := by rfl) : CallR X (.type "set") (rSetP K P w) := by
  subst hK hP hw
  intro pins s σ H xs us Q I r h
  obtain ⟨l, ks, rfl, hl, hk, hf, q⟩ := h
  rw [Vals.ref1 r]
  obtain ⟨its, rv, pl, hz⟩ := I.list hl
  have ht : ∀ p ∈ ks, IsT X.prog X.w s.heap p.2 p.1 := fun p hp => I.isT (hk p hp)
  refine set_call (P := X.prog) (w := X.w) (ks := ks) (I.ok.hd hc) pl.isList (by simpa using refs_of_vals rv) ht hf (by omega) fun h' tk U => ?_
  obtain ⟨keep, L, es, ep, t, R, g⟩ := U
  refine ⟨.ref s.heap.objs.size, upd H s.heap.objs.size (SetW X.prog X.w s.heap.objs.size L), I.laid (t' := tk) keep (Nat.le_refl _) ?_, rfl, q _ L (I.hok.fresh (Nat.le_refl _)) (fun p hp => List.mem_of_mem_take (g.sub p hp)) (fun p hp => g.all p (by rw [List.take_length]; exact hp)) R.nd (Nat.lt_of_le_of_lt g.len hf)⟩
  obtain ⟨o, ho, r⟩ := R.ob
  exact ⟨⟨es, ep, t, ⟨o, ho, r⟩, R.rows, R.fit, R.tab.up, R.led⟩, ⟨o, ho⟩, fun h1 h2 ⟨es2, ep2, t2, ⟨o2, ho2, r2⟩, z⟩ k => ⟨es2, ep2, t2, ⟨o2, k o2 ho2, r2⟩, z⟩⟩
end
theorem map_refs {α : Type} {f : α → Value} {L : List α} : ∀ {vs : List Value}, (∀ v ∈ vs, ∃ q ∈ L, v = f q) → ∃ L1 : List α, vs = L1.map f ∧ ∀ q ∈ L1, q ∈ L
  | [], _ => ⟨[], rfl, fun _ z => nomatch z⟩
  | v :: vs, h => by
    obtain ⟨q, hq, rfl⟩ := h v (by simp)
    obtain ⟨L1, rfl, h1⟩ := map_refs (vs := vs) fun u hu => h u (by simp [hu])
    exact ⟨q :: L1, rfl, fun r hr => (List.mem_cons.mp hr).elim (fun e => e ▸ hq) (h1 r)⟩
theorem each_refs : ∀ (L : List (Addr × List Int)), EachIs (fun v (q : Addr × List Int) => v = Value.ref q.1) (L.map fun q => Value.ref q.1) L
  | [] => .nil
  | _ :: L => .cons rfl (each_refs L)
theorem refs_each : ∀ {out : List Value} {L : List (Addr × List Int)}, EachIs (fun v (q : Addr × List Int) => v = Value.ref q.1) out L → out = L.map fun q => Value.ref q.1
  | _, _, .nil => rfl
  | _, _, .cons h t => by rw [h, refs_each t]; rfl
theorem alike_T (L : List (Addr × List Int)) : AllAlike (L.map encT) := AllAlike.of fun b b' => by
  unfold encT
  simp only [PySem.W.alike]
  exact PySem.W.alike_ints _ _
section
variable {X : Cx} {K : PySem.W.Frag}
theorem reads_ints {h : Heap} : ∀ {ns : List Int} {us : List Value}, Vals (ns.map V.int) us → ReadsAll h us (ns.map .int) []
  | [], _, .nil => .nil
  | n :: ns, _, .cons r t => by
    obtain ⟨tk, rfl⟩ := r
    exact .cons (as := []) (.int n tk) (reads_ints t)
theorem kr_sortS (hc : X.calm = true) (hu : X.A.units + 64 < cLine) {P : Program} {w : World} (hK : X.K = K := by rfl) (hP : X.prog = P := by rfl) (hw : X.w = w := by rfl) : CallR X (.builtin "sorted") (rSortS K P w) := by
  subst hK hP hw
  intro pins s σ H vs us Q I r h
  obtain ⟨a, L, rfl, ha, hk, hf, hne, hnd, q⟩ := h
  obtain ⟨⟨es, ep, t, ⟨o, ho, hex, hd⟩, rows, fit, up, led⟩, _, _⟩ := (show ObjOk X.prog X.w H s.heap a (SetW X.prog X.w a L) from I.hok a _ ha)
  have cnt : es.size = L.length := by simpa [rowsOf] using congrArg List.length rows
  have tup : ∀ p ∈ L, IsT X.prog X.w s.heap p.2 p.1 := fun p hp => I.isT (hk p hp)
  rw [Vals.ref1 r]
  refine Calls.call_function_entry kind_sorted plain_sorted entry_sorted (args_sorted1 _) ?_
  unfold Builtin.«sorted»
  refine wpAny_bind (m := checkCount "sorted" 1 1 _) (wpAny_pure ?_)
  refine wpAny_bind (collect_set (A := X.A.in1) (I.ok.hd hc) ⟨o, ho, hex.1, hd⟩ fit (by unfold scanBound; omega) up led fun s1 vs k1 hz g1 o1 pm => ?_)
  rw [rows, show (rowsOf X.prog X.w L).map (·.2) = L.map fun q => Value.ref q.1 by simp [rowsOf]] at pm
  obtain ⟨L1, rfl, hs1⟩ := map_refs (f := fun q : Addr × List Int => Value.ref q.1) (L := L) (vs := vs) fun v hv => by
    obtain ⟨p, hp, e⟩ := List.mem_map.mp (pm.mem_iff.mp hv)
    exact ⟨p, hp, e.symm⟩
  have one : ∀ p ∈ L, ∀ p' ∈ L, p.1 = p'.1 → p = p' := fun p hp p' hp' e => by
    have a1 := tup p hp
    rw [e] at a1
    exact Prod.ext e (a1.inj (tup p' hp'))
  have nL : L.Nodup := nodup_of_map hnd
  have nR : (L.map fun q => Value.ref q.1).Nodup := List.pairwise_map.mpr (List.Pairwise.imp_of_mem (fun {p p'} hp hp' ne e => ne (one p hp p' hp' (by injection e))) nL)
  have pL : L1.Perm L := by
    refine (List.perm_ext_iff_of_nodup (nodup_of_map (pm.nodup_iff.mpr nR)) nL).mpr fun p => ⟨hs1 p, fun hp => ?_⟩
    obtain ⟨p', hp', e⟩ := List.mem_map.mp (pm.mem_iff.mpr (List.mem_map.mpr ⟨p, hp, rfl⟩))
    rw [← one p' (hs1 p' hp') p hp (by injection e)]
    exact hp'
  have len1 : L1.length < 300 := by rw [pL.length_eq]; exact hf
  refine wpAny_bind (wpAny_newList ?_ (by rw [sizeLine_eq, List.length_map]; omega))
  have hoL : (s1.heap.push (seqObj "list" (L1.map fun q => Value.ref q.1).toArray 0)).get? s1.heap.objs.size = some (seqObj "list" (L1.map fun q => Value.ref q.1).toArray 0) := Heap.get?_push_size _ rfl
  have rd : EachIs (fun v (q : Addr × List Int) => ∃ as, Reads (s1.heap.push (seqObj "list" (L1.map fun q => Value.ref q.1).toArray 0)) v (encT q) as ∧ s1.heap.objs.size ∉ as) (L1.map fun q => Value.ref q.1) L1 := by
    have key : ∀ l : List (Addr × List Int), (∀ p ∈ l, p ∈ L) → EachIs (fun v (q : Addr × List Int) => ∃ as, Reads (s1.heap.push (seqObj "list" (L1.map fun q => Value.ref q.1).toArray 0)) v (encT q) as ∧ s1.heap.objs.size ∉ as) (l.map fun q => Value.ref q.1) l := by
      intro l
      induction l with
      | nil => intro _; exact .nil
      | cons p l ih =>
        intro hl
        refine .cons ?_ (ih fun p' hp' => hl p' (by simp [hp']))
        obtain ⟨its, rv, ⟨ot, hot, hct, n, hdt⟩, _⟩ := I.tuple (hk p (hl p (by simp)))
        refine ⟨[], .tuple (Heap.get?_push_of_some _ (k1 _ _ hot)) hct hdt (reads_ints (by simpa using rv)), by simp⟩
    exact key L1 hs1
  refine wpAny_bind (wpAny_holding (PySem.W.list_sort_data (s := { s1 with heap := s1.heap.push (seqObj "list" (L1.map fun q => Value.ref q.1).toArray 0) }) (bs := L1) (enc := encT) hoL (each_refs L1) rd (alike_T L1) ?_ (by rw [sizeLine_eq]; omega) (fun p hp => ?_) fun out lo eo => ?_))
  · refine .inl fun d hd => ?_
    obtain ⟨p, hp, rfl⟩ := List.mem_map.mp hd
    have ne := hne p (hs1 p hp)
    unfold encT
    cases e : p.2 with
    | nil => exact absurd e ne
    | cons n ns => exact ⟨_, _, rfl⟩
  · unfold encT
    simp only [PyData.depth]
    rw [PySem.W.depth_ints]
    have : X.A.in1.units ≤ X.A.units + 1 := by simp
    omega
  · have e := refs_each eo
    subst e
    obtain ⟨c, hc⟩ := sortedHeap_at (vs := L1.map fun q => Value.ref q.1) (out := List.toArray ((L1.mergeSort (dataLe false encT)).map fun q => Value.ref q.1)) hoL
    have keep : ∀ b u, s.heap.get? b = some u → (sortedHeap (s1.heap.push (seqObj "list" (L1.map fun q => Value.ref q.1).toArray 0)) s1.heap.objs.size (L1.map fun q => Value.ref q.1) (List.toArray ((L1.mergeSort (dataLe false encT)).map fun q => Value.ref q.1))).get? b = some u := fun b u e => by
      have q := k1 b u e
      have lt := Heap.lt_size q
      rw [sortedHeap_old (Nat.ne_of_lt lt) (by rw [size_push']; exact Nat.lt_succ_of_lt lt)]
      exact Heap.get?_push_of_some _ q
    generalize hH : sortedHeap (s1.heap.push (seqObj "list" (L1.map fun q => Value.ref q.1).toArray 0)) s1.heap.objs.size (L1.map fun q => Value.ref q.1) (List.toArray ((L1.mergeSort (dataLe false encT)).map fun q => Value.ref q.1)) = h2 at keep hc
    have ob : ObjOk X.prog X.w (upd H s1.heap.objs.size (.lst ((L1.mergeSort (dataLe false encT)).map fun q => V.ref q.1))) h2 s1.heap.objs.size (.lst ((L1.mergeSort (dataLe false encT)).map fun q => V.ref q.1)) :=
      ⟨by rw [List.length_map, List.length_mergeSort, sizeLine_eq]; omega, _, c, vals_of_refs (L1.mergeSort (dataLe false encT)), hc⟩
    have J : L2.Inv X pins σ (upd H s1.heap.objs.size (.lst ((L1.mergeSort (dataLe false encT)).map fun q => V.ref q.1))) { s with heap := h2, gens := s1.gens, drawn := s1.drawn, toks := s1.toks } :=
      I.call (ch := []) (Un.laid keep hz (I.hok.fresh hz)) (I.hok.laid keep hz ob) (by rw [g1]; exact I.bare) (fun _ z => nomatch z)
    refine wpAny_pure ⟨_, rfl, .ref s1.heap.objs.size, _, ?_, rfl, q L1 s1.heap.objs.size pL (I.hok.fresh hz)⟩
    obtain ⟨a1, a2, a3, a4, a5⟩ := s1
    cases (show a5 = s.os from o1)
    exact J
end
end MW

set_option Elab.async false
set_option linter.all false
set_option maxRecDepth 100000
set_option maxHeartbeats 2000000
namespace MW
open PySem PySem.Spec PyProof.Rows L2

/-- a def of the text, as the top left it -/
def Def (K : PySem.W.Frag) (mg : Str → Option Value) (x : Str) (st : Stmt) : Prop := ∃ f fd, FunD K x x (defArgs st) (defBody st) (defScope st) [] [] f fd ∧ mg x = some (.ref f)
/-- a name of the module that may be called, and its promise -/
def FnK (P : Program) (w : World) (K : PySem.W.Frag) (mg : Str → Option Value) (base : Heap) (k : Nat) (x : Str) (ps : List Str) (sp : Sp) : Prop :=
  ∃ f fd, FnOk P w K mg base (L2.CX P w) k f fd ps sp ∧ mg x = some (.ref f) ∧ PySem.W.keepIn K (.ref f) = true ∧ Binds K fd ps [] ∧ ∃ oc od osl, K.lookup f = some ⟨oc, od, .func fd, osl⟩
section
variable {P : Program} {w : World} {K : PySem.W.Frag} {mg : Str → Option Value} {base : Heap}
theorem fn_mk {x : Str} {st : Stmt} {N ps : List Str} {k : Nat} {sp : Sp} (D : Def K mg x st) (S : FnScope N ps (defScope st)) (len : ∀ vs H Q E, sp vs H Q E → vs.length = ps.length)
    (hb : ∀ (kV doc pm : Value) (an : Option Addr) (cdv ct : Value) (us : List Value), us.length = ps.length → bindArgs (PySem.W.fnOf x x (defArgs st) (defBody st) (defScope st) .none kV doc pm an cdv ct) ⟨us, []⟩ = pure (ps.zip us))
    (hbody : ∀ (f : Addr) (cdv : Value) (A : Around) (outer : List Env) (s : Shared) (H : Hp) (vs : List V) (Q : VK) (E : XK), Room k (A.deeper (envOfC x (defScope st) s.heap.objs.size f cdv)) → sp vs H Q E →
      ∃ t, PSs (cxOf (L2.CX P w) P w K mg base N x (defScope st) f cdv A outer s H E) (defBody st) t ∧ t { nx := fun _ H' => Q .non H', rt := Q } (start N vs) H) : FnK P w K mg base (k + 1) x ps sp := by
  obtain ⟨f, fd, F, g⟩ := D
  exact ⟨f, fd, F.ok S len (fun cdv A outer s H vs Q E hr h => hbody f cdv A outer s H vs Q E hr h), g, F.kp, F.bindsN hb, let ⟨oc, od, _, _, _, _, _, _, _, osl, _, lk, _⟩ := F.ex; ⟨oc, od, osl, lk⟩⟩
theorem FnK.imp {k : Nat} {x : Str} {ps : List Str} {sp sp' : Sp} (F : FnK P w K mg base k x ps sp) (h : ∀ vs H Q E, sp' vs H Q E → sp vs H Q E) : FnK P w K mg base k x ps sp' := by
  obtain ⟨f, fd, F, r⟩ := F
  exact ⟨f, fd, F.imp h, r⟩
end
section
variable {X : Cx}
/-- f(e, ..) -/
theorem pe_fn {k : Nat} {x : Str} {ps : List Str} {sp : Sp} {E : XK} {p pos : Pos} {e : Expr} {es : List Expr} {t : TA} (F : FnK X.prog X.w X.K X.mg X.base k x ps sp) (hr : Room k X.A) (hx : Passes (L2.CX X.prog X.w) X E) (ha : PA X (e :: es) t) (hg : Gl X x := by rfl)
    (hdb : (x == ("__debug__" : Str)) = false := by decide) (he : starEach (e :: es) X.env = (false, eval e X.env) :: starEach es X.env := by rfl) (hpl : (backTo pos (starEach es X.env)).any (·.1) = false := by rfl) :
    PE X (.Call (.Name x p) (e :: es) [] pos) (tCall sp [] E t) := by
  obtain ⟨f, fd, F, g, kp, b, _⟩ := F
  exact pe_call F hr hg g kp b .nil hx ha hdb he hpl
/-- the same in a try's body -/
theorem pe_fnS {k : Nat} {x : Str} {ps : List Str} {sp : Sp} {W : WX} {p pos : Pos} {e : Expr} {es : List Expr} {t : TA} (F : FnK X.prog X.w X.K X.mg X.base k x ps sp) (hr : Room k X.A) (tk : Takes X W) (ha : PA X (e :: es) t) (hg : Gl X x := by rfl)
    (hdb : (x == ("__debug__" : Str)) = false := by decide) (he : starEach (e :: es) X.env = (false, eval e X.env) :: starEach es X.env := by rfl) (hpl : (backTo pos (starEach es X.env)).any (·.1) = false := by rfl) :
    PE X (.Call (.Name x p) (e :: es) [] pos) (tCallS sp (WE W) t) := by
  obtain ⟨f, fd, F, g, kp, b, _⟩ := F
  exact pe_callS F hr hg g kp b (fun σ => passAt tk σ) ha hdb he hpl
/-- the module's constants -/
theorem pe_kint {x : Str} {i : Int} {pos : Pos} (h : ∃ t, X.mg x = some (.int i t)) (hg : Gl X x := by rfl) (hd : (x == ("__debug__" : Str)) = false := by decide) : PE X (.Name x pos) (tC (.int i)) := by
  obtain ⟨t, h⟩ := h
  exact pe_glob hg h ⟨t, rfl⟩ hd
theorem pe_kstr {x z : Str} {pos : Pos} (h : ∃ t, X.mg x = some (.str z t)) (hg : Gl X x := by rfl) (hd : (x == ("__debug__" : Str)) = false := by decide) : PE X (.Name x pos) (tC (.str z)) := by
  obtain ⟨t, h⟩ := h
  exact pe_glob hg h ⟨t, rfl⟩ hd
theorem pe_kref {x : Str} {a : Addr} {pos : Pos} (h : X.mg x = some (.ref a)) (hg : Gl X x := by rfl) (hd : (x == ("__debug__" : Str)) = false := by decide) : PE X (.Name x pos) (tC (.ref a)) := pe_glob hg h rfl hd
end
/-! ### the rules with the written part named -/
section
variable {X : Cx} {K : PySem.W.Frag}
theorem kr_len (h : X.K = K := by rfl) : CallR X (.builtin "len") (rLen K) := h ▸ call_len
theorem kr_all (hc : X.calm = true) (h : X.K = K := by rfl) : CallR X (.builtin "all") (rAll K) := h ▸ cr_all hc
theorem kr_any (hc : X.calm = true) (h : X.K = K := by rfl) : CallR X (.builtin "any") (rAny K) := h ▸ cr_any hc
theorem kr_max (hc : X.calm = true) (h : X.K = K := by rfl) : CallR X (.builtin "max") (rMax K) := h ▸ cr_max hc
theorem kr_min (hc : X.calm = true) (h : X.K = K := by rfl) : CallR X (.builtin "min") (rMin K) := h ▸ cr_min hc
theorem kr_eqD (hu : X.A.units + 64 < cLine) (h : X.K = K := by rfl) : OpR X (compareOp .Eq) (rEqD K) := h ▸ op_eqD hu
theorem kr_neD (hu : X.A.units + 64 < cLine) (h : X.K = K := by rfl) : OpR X (compareOp .NotEq) (rNeD K) := h ▸ op_neD hu
theorem kx_list (h : X.K = K := by rfl) : IxR X (rIxL K) := h ▸ ix_list
theorem kx_tup (h : X.K = K := by rfl) : IxR X (rIxT K) := h ▸ ix_tup
theorem ks_list (h : X.K = K := by rfl) : SlR X (rSlL K) := h ▸ sl_list
theorem ks_tup (h : X.K = K := by rfl) : SlR X (rSlT K) := h ▸ sl_tup
theorem kr_catT (h : X.K = K := by rfl) : OpR X (binaryOp .Add) (rCatT K) := h ▸ op_catT
theorem kpi_list {tg l : Expr} {tl : TE} (hl : PE X l tl) (h : X.K = K := by rfl) : PI X tg l (iList K tl) := h ▸ pi_list hl
theorem kpi_tup {tg l : Expr} {tl : TE} (hl : PE X l tl) (h : X.K = K := by rfl) : PI X tg l (iTup K tl) := h ▸ pi_tup hl
theorem kpg_tup {es : List Expr} {k n : Nat} {t : TGs} {pos : Pos} (hc : X.calm = true) (he : PGs X es t) (h : X.K = K := by rfl)
    (hn : (assignEach es X.env).length = n := by rfl) (hst : (assignEach es X.env).findIdx? (·.1) = none := by rfl) : PG X (.Tuple es k pos) (gTup K n t) := h ▸ pg_tup hc he hn hst
end
/-- an own exception class -/
structure Xc (K : PySem.W.Frag) (mg : Str → Option Value) (x : Str) (C : Addr) : Prop where
  g : mg x = some (.ref C)
  q : PySem.W.excIn K C He.veBase "ValueError.__new__" = true
  k : PySem.W.keepIn K (.ref C) = true
  b : PySem.W.subIn K (.ref C) (.type "BaseException") = some true
  t : PySem.W.typeIn K (.ref C) = some (.type "type")
def tRaise (C : Addr) (E : XK) : TS := fun _ _ H => E (.ref C) none H
section
variable {X : Cx}
/-- raise X('..') in a def's body -/
theorem ps_rz {E : XK} {E1 : Value → Shared → Prop} {x m : Str} {C : Addr} {j : Nat} {p p2 pos pos2 : Pos} (c : Xc X.K X.mg x C) (hc : X.calm = true) (hs : X.stack = X.env :: X.outer) (hf : X.env.frame = some X.env.locals) (hex : X.ex = [])
    (hx : X.xe = fun e s' => wpAny (model X.prog X.w) X.A (leaving X.env e) (fun _ s'' => L2.CX X.prog X.w X.outer X.H_0 X.s_0 E e s'') E1 s') (hg : Gl X x := by rfl) (hdb : (x == ("__debug__" : Str)) = false := by decide) :
    PS X (.Raise (some (.Call (.Name x p) [.Constant (.str m) j p2] [] pos)) none pos2) (tRaise C E) :=
  ps_raise hc (takes_of hs hf hex hx) (pmk_own PySem.F.excBase_ValueError c.q c.g c.k (raises_own c.b c.t) hg hdb)
end
end MW

set_option Elab.async false
set_option linter.all false
set_option maxRecDepth 100000
set_option maxHeartbeats 2000000
namespace MW
open PySem PySem.Spec PyProof.Rows L2
theorem refs_of {K : PySem.W.Frag} {G : Hp} : ∀ {ps : List Pl} {us : List V}, DaAll K G us (ps.map eP) →
    ∃ ks : List (Addr × List Int), us = ks.map (fun q => V.ref q.1) ∧ ks.map (·.2) = ps.map (fun p => [p.1, p.2]) ∧ ∀ q ∈ ks, G q.1 = some (.tup (q.2.map V.int))
  | [], us, h => by
    cases h
    exact ⟨[], rfl, rfl, fun q hq => nomatch hq⟩
  | p :: ps, us, h => by
    cases h with
    | cons a b =>
      obtain ⟨ks, e1, e2, e3⟩ := refs_of b
      obtain ⟨x, xs, rfl, g, d⟩ := Da.tup_eq a
      have ex : xs = [V.int p.1, V.int p.2] := DaAll.intsV (ns := [p.1, p.2]) d
      subst ex
      refine ⟨(x, [p.1, p.2]) :: ks, by rw [e1]; rfl, by rw [List.map_cons, e2]; rfl, fun q hq => ?_⟩
      rcases List.mem_cons.mp hq with e | e
      · subst e; exact g
      · exact e3 q e
theorem da_refs {K : PySem.W.Frag} {G : Hp} : ∀ {ps : List Pl} {ks : List (Addr × List Int)}, ks.map (·.2) = ps.map (fun p => [p.1, p.2]) → (∀ q ∈ ks, G q.1 = some (.tup (q.2.map V.int))) → DaAll K G (ks.map fun q => V.ref q.1) (ps.map eP)
  | [], ks, e, _ => by
    cases ks with
    | nil => exact .nil
    | cons k ks => cases e
  | p :: ps, ks, e, h => by
    cases ks with
    | nil => cases e
    | cons k ks =>
      have e1 : k.2 = [p.1, p.2] := by
        have := congrArg List.head? e
        simpa using this
      have e2 : ks.map (·.2) = ps.map (fun p => [p.1, p.2]) := by
        have := congrArg List.tail e
        simpa using this
      refine .cons ?_ (da_refs e2 fun q hq => h q (List.mem_cons_of_mem _ hq))
      have g := h k (by simp)
      rw [e1] at g
      exact .tup g (.cons (.int _) (.cons (.int _) .nil))
theorem pr_inj {a b : Pl} (h : [a.1, a.2] = [b.1, b.2]) : a = b := by
  obtain ⟨x, y⟩ := a
  obtain ⟨z, w⟩ := b
  simp at h
  exact Prod.ext h.1 h.2
theorem mem_pr {ps : List Pl} {a : Pl} : [a.1, a.2] ∈ ps.map (fun p => [p.1, p.2]) ↔ a ∈ ps := by
  constructor
  · intro h
    obtain ⟨b, h1, h2⟩ := List.mem_map.mp h
    rw [← pr_inj h2]; exact h1
  · exact fun h => List.mem_map.mpr ⟨a, h, rfl⟩
theorem pr_of {ps : List Pl} {x : List Int} (h : x ∈ ps.map (fun p => [p.1, p.2])) : ∃ p ∈ ps, x = [p.1, p.2] := by
  obtain ⟨b, h1, h2⟩ := List.mem_map.mp h
  exact ⟨b, h1, h2.symm⟩
/-- lists of pairs, as lists of places -/
theorem un_pr {ps : List Pl} : ∀ {xs : List (List Int)}, (∀ x ∈ xs, x ∈ ps.map (fun p => [p.1, p.2])) → ∃ qs : List Pl, xs = qs.map (fun p => [p.1, p.2]) ∧ ∀ q ∈ qs, q ∈ ps
  | [], _ => ⟨[], rfl, fun q hq => nomatch hq⟩
  | x :: xs, h => by
    obtain ⟨qs, e1, e2⟩ := un_pr (xs := xs) fun y hy => h y (List.mem_cons_of_mem _ hy)
    obtain ⟨p, hp, rfl⟩ := pr_of (h x (by simp))
    refine ⟨p :: qs, by rw [e1]; rfl, fun q hq => ?_⟩
    rcases List.mem_cons.mp hq with e | e
    · subst e; exact hp
    · exact e2 q e
section
variable {P : Program} {w : World} {K : PySem.W.Frag} {σ : L2.St} {S : Sit} {ta : TE}
/-- sorted(set(places)), few places, none below 0 -/
theorem ev_sortset0 {ps : List Pl} (ha : EvD K ta σ S (.list (ps.map eP))) (h64 : ps.length < 64) (hb : ∀ p ∈ ps, (0 ≤ p.1 ∧ p.1 < 64) ∧ 0 ≤ p.2 ∧ p.2 < 64) :
    EvD K (tCB (rSortedT K P w) (tCons (tCB (rSetOfT K P w) (tCons ta tNil)) tNil)) σ S (.list ((sd ps).map eP)) := fun T a Q q =>
  ha T a _ fun v U l o => by
    obtain ⟨b, us, rfl, g1, g2⟩ := Da.lst_eq o
    obtain ⟨ks, rfl, e2, e3⟩ := refs_of g2
    have hlen : ks.length < 64 := by
      have := congrArg List.length e2
      rw [List.length_map, List.length_map] at this
      omega
    refine ⟨b, ks, rfl, SqL.of (U.sub _ _ g1), fun p hp => SqT.of (U.sub _ _ (e3 p hp)), hlen, fun x L hx h1 h2 => ?_⟩
    have hL : ∀ p ∈ L, p.2 ∈ ps.map (fun p => [p.1, p.2]) := fun p hp => by
      rw [← e2]
      exact List.mem_map.mpr ⟨p, h1 p hp, rfl⟩
    refine ⟨x, L, 2, 64, rfl, upd_same, fun p hp => ?_, by decide, fun p hp => ?_, fun L' y hperm hnd _ hpw hy => ?_⟩
    · refine SqT.of ?_
      have g := U.sub _ _ (e3 p (h1 p hp))
      rw [upd_ne (ne_of_none g hx)]
      exact g
    · obtain ⟨z, hz, e⟩ := pr_of (hL p hp)
      rw [e]
      refine ⟨rfl, fun m hm => ?_⟩
      obtain ⟨b1, b2⟩ := hb z hz
      simp at hm
      rcases hm with e | e
      · subst e; exact b1
      · subst e; exact b2
    · have hL' : ∀ p ∈ L', p ∈ L := fun p hp => hperm.mem_iff.mp hp
      obtain ⟨qs, f1, f2⟩ := un_pr (ps := ps) (xs := L'.map (·.2)) fun z hz => by
        obtain ⟨p, hp, rfl⟩ := List.mem_map.mp hz
        exact hL p (hL' p hp)
      have hq : qs = sd ps := by
        refine sd_uniq ?_ fun a => ⟨f2 a, fun ha => ?_⟩
        · have nd : (qs.map fun p => [p.1, p.2]).Nodup := by rw [← f1]; exact hnd
          have pw : (qs.map fun p => [p.1, p.2]).Pairwise (fun a b => TS.code 64 a ≤ TS.code 64 b) := by
            rw [← f1]
            exact List.pairwise_map.mpr hpw
          have both := List.pairwise_map.mp (pw.and nd)
          refine List.Pairwise.imp_of_mem (fun {c d} hc hd h => ?_) both
          obtain ⟨b1, b2⟩ := hb c (f2 c hc)
          obtain ⟨b3, b4⟩ := hb d (f2 d hd)
          exact pair_lt h.1 h.2 b1 b2 b3 b4
        · have h3 : [a.1, a.2] ∈ L.map (·.2) := by
            have : [a.1, a.2] ∈ ks.map (·.2) := by rw [e2]; exact mem_pr.mpr ha
            obtain ⟨p, hp, e⟩ := List.mem_map.mp this
            rw [← e]
            exact h2 p hp
          have h4 : [a.1, a.2] ∈ L'.map (·.2) := by
            obtain ⟨p, hp, e⟩ := List.mem_map.mp h3
            exact List.mem_map.mpr ⟨p, hperm.mem_iff.mpr hp, e⟩
          rw [f1] at h4
          exact mem_pr.mp h4
      subst hq
      let V1 : Sit := U.pushM x (SetTO P w x L) hx
      have lV : Le U V1 := U.pushM_le hx
      refine q (.ref y) (V1.push y _ hy) (l.trans (lV.trans (V1.push_le hy))) (Da.lst upd_same (da_refs f1 fun p hp => ?_))
      exact (lV.trans (V1.push_le hy)).g _ _ (e3 p (h1 p (hL' p hp)))
end
end MW

set_option Elab.async false
set_option linter.all false
set_option maxRecDepth 100000
set_option maxHeartbeats 2000000
namespace MW
open PySem PySem.Spec PyProof.Rows L2
open PySem.W (EachIs AllAlike Sortable dataLe)
/-- rows of two whole numbers, by the order of places -/
def pcode (l : List Int) : Pl := (l.getD 0 0, l.getD 1 0)
theorem le_T {a b : Addr × List Int} {p q : Pl} (ha : a.2 = [p.1, p.2]) (hb : b.2 = [q.1, q.2]) : dataLe false encT a b = decide (p.1 < q.1 ∨ (p.1 = q.1 ∧ p.2 ≤ q.2)) := by
  have h := congrFun (congrFun (PySem.W.dataLe_ii (β := Pl) (fun p => p.1) (fun p => p.2)) p) q
  rw [← h]
  show (!PySem.W.dataLt (encT b) (encT a)) = (!PySem.W.dataLt (.tuple [.int q.1, .int q.2]) (.tuple [.int p.1, .int p.2]))
  unfold encT
  rw [ha, hb]
  rfl
section
variable {P : Program} {w : World} {K : PySem.W.Frag} {σ : L2.St} {S : Sit} {ta : TE}
/-- sorted(set(places)) -/
theorem ev_sortset {ps : List Pl} (ha : EvD K ta σ S (.list (ps.map eP))) (hl : ps.length < 300) :
    EvD K (tCB (rSortS K P w) (tCons (tCB (rSetP K P w) (tCons ta tNil)) tNil)) σ S (.list ((sd ps).map eP)) := fun T a Q q =>
  ha T a _ fun v U l o => by
    obtain ⟨b, us, rfl, g1, g2⟩ := Da.lst_eq o
    obtain ⟨ks, rfl, e2, e3⟩ := refs_of g2
    have hlen : ks.length < 300 := by
      have := congrArg List.length e2
      rw [List.length_map, List.length_map] at this
      omega
    refine ⟨b, ks, rfl, SqL.of (U.sub _ _ g1), fun p hp => SqT.of (U.sub _ _ (e3 p hp)), hlen, fun x L hx h1 h2 hnd hL3 => ?_⟩
    have hL : ∀ p ∈ L, ∃ z ∈ ps, p.2 = [z.1, z.2] := fun p hp => by
      refine pr_of ?_
      rw [← e2]
      exact List.mem_map.mpr ⟨p, h1 p hp, rfl⟩
    refine ⟨x, L, rfl, upd_same, fun p hp => ?_, hL3, fun p hp => ?_, hnd, fun L1 y pm hy => ?_⟩
    · refine SqT.of ?_
      have g := U.sub _ _ (e3 p (h1 p hp))
      rw [upd_ne (ne_of_none g hx)]
      exact g
    · obtain ⟨z, _, e⟩ := hL p hp
      rw [e]
      simp
    · have pm2 : (L1.mergeSort (dataLe false encT)).Perm L := (List.mergeSort_perm L1 _).trans pm
      have srt1 : (L1.mergeSort (dataLe false encT)).Pairwise (fun a b => dataLe false encT a b = true) := by
        have key : ∀ l : List (Addr × List Int), (∀ p ∈ l, p ∈ L) → (l.mergeSort (dataLe false encT)) = l.mergeSort (fun a b => decide ((pcode a.2).1 < (pcode b.2).1 ∨ ((pcode a.2).1 = (pcode b.2).1 ∧ (pcode a.2).2 ≤ (pcode b.2).2))) := fun l hl => by
          have z := List.map_mergeSort (l := l) (f := id) (r := dataLe false encT) (s := fun a b => decide ((pcode a.2).1 < (pcode b.2).1 ∨ ((pcode a.2).1 = (pcode b.2).1 ∧ (pcode a.2).2 ≤ (pcode b.2).2))) fun a ha b hb => by
            obtain ⟨p, _, ep⟩ := hL a (hl a ha)
            obtain ⟨q, _, eq⟩ := hL b (hl b hb)
            rw [le_T ep eq]
            simp only [id, ep, eq, pcode]
            rfl
          simpa using z
        have sub1 : ∀ p ∈ L1, p ∈ L := fun p hp => pm.mem_iff.mp hp
        have z := List.pairwise_mergeSort (le := fun a b : Addr × List Int => decide ((pcode a.2).1 < (pcode b.2).1 ∨ ((pcode a.2).1 = (pcode b.2).1 ∧ (pcode a.2).2 ≤ (pcode b.2).2))) (fun a b c h1 h2 => by simp only [decide_eq_true_eq] at h1 h2 ⊢; omega) (fun a b => by simp only [Bool.or_eq_true, decide_eq_true_eq]; omega) L1
        rw [← key L1 sub1] at z
        refine List.Pairwise.imp_of_mem (fun {a b} ha hb h => ?_) z
        obtain ⟨p, _, ep⟩ := hL a (pm2.mem_iff.mp ha)
        obtain ⟨q, _, eq⟩ := hL b (pm2.mem_iff.mp hb)
        rw [le_T ep eq]
        simp only [ep, eq, pcode] at h
        exact h
      generalize L1.mergeSort (dataLe false encT) = L2 at pm2 srt1
      obtain ⟨qs, f1, f2⟩ := un_pr (ps := ps) (xs := L2.map (·.2)) fun z hz => by
        obtain ⟨p, hp, rfl⟩ := List.mem_map.mp hz
        obtain ⟨z, hz, e⟩ := hL p (pm2.mem_iff.mp hp)
        rw [e]
        exact mem_pr.mpr hz
      have nd2 : (L2.map (·.2)).Nodup := (pm2.map (·.2)).nodup_iff.mpr hnd
      have hq : qs = sd ps := by
        refine sd_uniq ?_ fun a => ⟨f2 a, fun ha => ?_⟩
        · have pw : (L2.map (·.2)).Pairwise (fun a b => (pcode a).1 < (pcode b).1 ∨ ((pcode a).1 = (pcode b).1 ∧ (pcode a).2 ≤ (pcode b).2)) := by
            refine List.pairwise_map.mpr (List.Pairwise.imp_of_mem (fun {a b} ha hb h => ?_) srt1)
            obtain ⟨p, _, ep⟩ := hL a (pm2.mem_iff.mp ha)
            obtain ⟨q, _, eq⟩ := hL b (pm2.mem_iff.mp hb)
            rw [le_T ep eq] at h
            simpa [ep, eq, pcode] using h
          have both := pw.and nd2
          rw [f1] at both
          refine List.Pairwise.imp (fun {c d} h => ?_) (List.pairwise_map.mp both)
          have h1 : c.1 < d.1 ∨ (c.1 = d.1 ∧ c.2 ≤ d.2) := h.1
          have h2 := h.2
          have ne : c ≠ d := fun z => h2 (by rw [z])
          unfold plt
          rcases h1 with h1 | ⟨h1, h3⟩
          · exact .inl h1
          · refine .inr ⟨h1, ?_⟩
            have : c.2 ≠ d.2 := fun z => ne (Prod.ext h1 z)
            omega
        · have h3 : [a.1, a.2] ∈ L.map (·.2) := by
            have z : [a.1, a.2] ∈ ks.map (·.2) := by rw [e2]; exact mem_pr.mpr ha
            obtain ⟨p, hp, e⟩ := List.mem_map.mp z
            rw [← e]
            exact h2 p hp
          have h4 : [a.1, a.2] ∈ L2.map (·.2) := (pm2.map (·.2)).mem_iff.mpr h3
          rw [f1] at h4
          exact mem_pr.mp h4
      subst hq
      have lV : Le U (U.pushM x (SetW P w x L) hx) := U.pushM_le hx
      refine q (.ref y) ((U.pushM x (SetW P w x L) hx).push y _ hy) ((l.trans lV).trans (Sit.push_le _ hy)) (Da.lst upd_same (DaAll.up (Sit.push_le _ hy).g ?_))
      refine da_refs f1 fun p hp => ?_
      exact e3 p (h1 p (pm2.mem_iff.mp hp))
end
end MW

set_option Elab.async false
set_option linter.all false
set_option maxRecDepth 100000
set_option maxHeartbeats 2000000
namespace MW
open PySem PySem.Spec PyProof.Rows L2
/-- an exception that was raised and caught, held at a -/
def ExC (cls : Value) (a : Addr) : HO := .ext fun h => ∃ (oe : Obj) (vs : Array Value), h.get? a = some oe ∧ Zc cls none oe ∧ oe.data = .fields vs
section
variable {X : Cx} {pins : List (Addr × Obj)} {σ : L2.St} {H : Hp} {sI s' : Shared} {B : Heap}
/-- on the ground again, the exception tracked -/
theorem landT {a : Addr} {oe : Obj} {fv : Array Value} {cls : Value} (I : Inv X pins σ H sI) (nb : ∀ b o, sI.heap.get? b = some o → b ∉ frs X.stack → B.get? b = some o) (st : B.StaysIn s'.heap) (up : sI.heap.UpToSlots s'.heap)
    (os : s'.os = sI.os) (ag : AllBare s'.gens) (hB : B.get? a = none) (na : H a = none) (nfr : a ∉ frs X.stack) (he : s'.heap.get? a = some oe) (hz : Zc cls none oe) (hd : oe.data = .fields fv) : Inv X pins σ (upd H a (ExC cls a)) s' := by
  have nI : sI.heap.get? a = none := by
    cases e : sI.heap.get? a with
    | none => rfl
    | some o => rw [nb a o e nfr] at hB; cases hB
  have ne : ∀ b o, sI.heap.get? b = some o → b ≠ a := fun b o e z => by rw [z, nI] at e; cases e
  have inFr : ∀ b ∈ frs X.stack, ∀ o, sI.heap.get? b = some o → ∃ sl, s'.heap.get? b = some { o with slots := sl } := fun b hb o e => by
    obtain ⟨_, o', e', hn⟩ := I.stack.mem hb
    rw [e] at e'
    cases e'
    exact up b o e hn
  have U : Un (frs X.stack) [] H (upd H a (ExC cls a)) sI.heap s'.heap := by
    refine ⟨?_, ?_, ?_, ?_, ?_, ?_, ?_⟩
    · exact fun b o e _ hb _ => st b o (nb b o e hb)
    · exact fun b o e _ hb _ => inFr b hb o e
    · intro b o e n _
      rw [upd_ne (ne b o e)]
      exact n
    · intro b o e _
      by_cases hb : b ∈ frs X.stack
      · obtain ⟨sl, q⟩ := inFr b hb o e
        exact ⟨_, q⟩
      · exact ⟨o, st b o (nb b o e hb)⟩
    · intro b xs e
      rw [upd_ne (ne_of_none e na)]
      exact e
    · intro b o u e
      rw [upd_ne (ne_of_none e na)]
      exact e
    · intro b ps e
      refine ⟨#[], ?_⟩
      rw [upd_ne (ne_of_none e na), e]
      simp
  have hok : HOk X.prog X.w (upd H a (ExC cls a)) s'.heap := by
    intro b u e
    by_cases hb : b = a
    · subst hb
      rw [upd_same] at e
      cases e
      exact ⟨⟨oe, fv, he, hz, hd⟩, ⟨oe, he⟩, fun _ _ ⟨o, v, q, r⟩ k => ⟨o, v, k o q, r⟩⟩
    · rw [upd_ne hb] at e
      have g : ObjOk X.prog X.w H s'.heap b u := ((I.inGround nb).kept st) b u e
      refine g.stay (fun _ _ _ q => q) (fun c q => ?_) fun c xs q => ?_
      · rw [upd_ne (ne_of_none q na)]; exact q
      · rw [upd_ne (ne_of_none q na)]; exact q
  have J := I.call (ch := []) (h' := s'.heap) (g' := s'.gens) (t' := s'.toks) (d' := s'.drawn) U hok ag (fun _ z => nomatch z)
  obtain ⟨b1, b2, b3, b4, b5⟩ := s'
  have e5 : b5 = sI.os := os
  subst e5
  exact J
theorem suiteT {s : Shared} (I : Inv X pins σ H s) (a : Addr) : Inv (X.suite a (X.pn ++ pins)) [] σ H s :=
  ⟨I.ok.suite _ _, I.os, I.bare, I.base, I.loc, I.cell, I.free, I.freeC, fun p hp => I.pin p (by rw [List.append_nil] at hp; exact hp), I.hok, I.len⟩
theorem unsuiteT {s : Shared} {a : Addr} {pn' : List (Addr × Obj)} (I : Inv (X.suite a (X.pn ++ pins)) pn' σ H s) (ok : X.Ok) : Inv X pins σ H s :=
  ⟨ok, I.os, I.bare, I.base, I.loc, I.cell, I.free, I.freeC, fun p hp => I.pin p (List.mem_append_left _ hp), I.hok, I.len⟩
end
/-- what the clause wishes of an exception of the body: it is the clause's; slot i is the name's, the suite goes on with the exception tracked -/
def wKeep (K : PySem.W.Frag) (c : Value) (i : Nat) (ts : TS) (D : Ends) : WX := fun cls d σ H => d = none ∧ PySem.W.exmOne K cls c = some true ∧
  ∀ a, H a = none → ts { nx := fun σ' H' => D.nx (σ'.set i none) H', rt := fun _ _ => False, bk := fun _ _ => False, ct := fun _ _ => False } (σ.set i (some (.ref a))) (upd H a (ExC cls a))
section
variable {X : Cx} {x n : Str} {c : Value} {i : Nat} {body suite : List Stmt} {b0 : Stmt} {np pos pos' : Pos} {tb : WX → TS} {ts : TS}
theorem ps_tryK (hs : X.stack = X.env :: X.outer) (hf : X.env.frame = some X.env.locals) (hN : X.N.Nodup) (hi : X.N[i]? = some n) (hln : X.env.kindOf n = some .local) (hc : Names X x c)
    (hb : ∀ (W : WX) (pn : List (Addr × Obj)) (xe : Value → Shared → Prop), Takes (X.tr pn xe) W → PassesOwn (model X.prog X.w) X.A X.env xe → PSs (X.tr pn xe) body (tb W))
    (hsu : ∀ (a : Addr) (pn : List (Addr × Obj)), PSs (X.suite a pn) (b0 :: suite) ts) :
    PS X (.Try body [.ExceptHandler (some (.Name x np)) (some n) (b0 :: suite) pos'] [] [] pos) (fun D σ H => tb (wKeep X.K c i ts D) D σ H) := by
  constructor
  intro pins s σ H D I h
  have ok := I.ok
  have hfr : X.A.frames = some (X.env :: X.outer) := by rw [ok.frames, hs]
  have hloc : Loc X.env.scope n := .inl hln
  apply wpAny_Try_except
  refine wpAny_mono ((hb (wKeep X.K c i ts D) (X.pn ++ pins) _ ?takes PassesOwn.looking).run [] s σ H D (I.toTry _) h) ?done (fun _ _ z => z)
  case takes =>
    intro u s' xx
    obtain ⟨a, B, sI, pins', σ', H', cls, d, rfl, J', nb, up, sky, na, os, ag, hd0, hm, hyes⟩ := xx
    subst hd0
    have J : Inv X pins σ' H' sI := J'.ofTry ok
    rw [show (X.tr (X.pn ++ pins) _).stack = X.env :: X.outer from hs] at sky
    show wpAny (model X.prog X.w) X.A (noteFrame (.ref a) X.env) _ _ _
    refine Sky.land Zc.steady hfr hf sky fun h3 fl3 up3 => ?_
    have J3 : Inv X pins σ' H' { s' with heap := h3 } := J.landed nb fl3.1 (up.trans up3) os ag
    obtain ⟨oe3, fv3, he3, hz3, hd3⟩ := fl3.there
    have nfr : a ∉ frs X.stack := fun hmem => by
      rw [hs] at hmem
      obtain ⟨_, o', e', hn⟩ := fl3.2.2.1.mem hmem
      rw [he3] at e'
      cases e'
      exact hn _ hd3
    apply wpAny_handleBy_cons (codeAny_handlers_test ?_) (by intro q; cases q)
    have LT : PySem.W.Looks (model X.prog X.w) h3 (typeOf (.ref a)) cls := fun A Q E s k q => wpAny_typeOf_ref (k _ _ he3) (by rw [hz3.1]; exact q)
    have LM := PySem.W.exm_one (M := model X.prog X.w) J3.kIn LT hm
    have S3 := suiteT J3 a
    have test : ∀ {Q : Value → Shared → Prop} {E : Value → Shared → Prop}, Q c { s' with heap := h3 } → wpAny (model X.prog X.w) (X.A.mark (some (.ref a))) (eval (.Name x np) X.env) Q E { s' with heap := h3 } := fun {Q E} q => by
      obtain ⟨hg, hdbg, hm | ⟨hm, hv, hnn⟩⟩ := hc
      · exact ld_glob (X := X.suite a (X.pn ++ pins)) S3 hg hm q hdbg
      · exact ld_blt (X := X.suite a (X.pn ++ pins)) S3 hg hm hv q hnn hdbg
    apply test
    apply LM.here
    apply codeAny_handlers_suite_as
    refine HandSPX.lands_againZ fl3 fun h4 fl4 up4 => ?_
    obtain ⟨oe4, fv4, he4, hz4, hd4⟩ := fl4.there
    have J4 : Inv X pins σ' (upd H' a (ExC cls a)) { s' with heap := h4 } := landT J nb fl4.1 ((up.trans up3).trans up4) os ag fl4.2.1 na nfr he4 hz4 hd4
    have S4 := suiteT J4 a
    refine store_ok (X := X.suite a (X.pn ++ pins)) (v := .ref a) S4 hN hi hloc rfl (fun s5 S5 => ?_) (.inr hln)
    refine wpAny_mono ((hsu a (X.pn ++ pins)).run [] s5 _ _ _ S5 (hyes a na)) (fun f s6 hsp => ?_) (fun _ _ z => False.elim z)
    cases f with
    | next =>
      obtain ⟨σ6, H6, S6, q6⟩ := hsp
      exact gone_ok (unsuiteT S6 ok) hN hi hln fun s7 J7 => ⟨_, _, J7, q6⟩
    | brk =>
      obtain ⟨_, _, _, q6⟩ := hsp
      exact q6.elim
    | cont =>
      obtain ⟨_, _, _, q6⟩ := hsp
      exact q6.elim
    | ret u =>
      obtain ⟨_, _, _, _, _, q6⟩ := hsp
      exact q6.elim
  case done =>
    intro f s1 hsp
    cases f with
    | next =>
      obtain ⟨σ1, H1, J1, q⟩ := hsp
      exact wpAny_execs_nil ⟨σ1, H1, J1.ofTry ok, q⟩
    | brk =>
      obtain ⟨σ1, H1, J1, q⟩ := hsp
      exact ⟨σ1, H1, J1.ofTry ok, q⟩
    | cont =>
      obtain ⟨σ1, H1, J1, q⟩ := hsp
      exact ⟨σ1, H1, J1.ofTry ok, q⟩
    | ret u =>
      obtain ⟨v, σ1, H1, J1, r, q⟩ := hsp
      exact ⟨v, σ1, H1, J1.ofTry ok, r, q⟩
/-! ### isinstance of such -/
def rIsC (K : PySem.W.Frag) : List V → Hp → VK → Prop := fun xs H Q => ∃ (a D : Addr) (c : V) (cv : Value) (b : Bool), xs = [.ref a, c] ∧ H a = some (ExC (.ref D) a) ∧ ExcC K D ∧ (∀ u, RelV c u → u = cv) ∧ PySem.W.kitOne K (.ref D) cv = some b ∧ Q (.bl b) H
theorem kr_isC {K : PySem.W.Frag} (h : X.K = K := by rfl) : CallR X (.builtin "isinstance") (rIsC K) := by
  subst h
  intro pins s σ H xs us Q I r hh
  obtain ⟨a, D, c, cv, b, rfl, ha, C, hcv, e, q⟩ := hh
  obtain ⟨u1, u2, rfl, r1, r2⟩ := vals2 r
  have e2 := hcv _ r2
  subst e2
  cases (show u1 = Value.ref a from r1)
  obtain ⟨⟨oe, fv, he, hz, hd⟩, _, _⟩ := (show ObjOk X.prog X.w H s.heap a (ExC (.ref D) a) from I.hok a _ ha)
  have J : PySem.W.InstAt s.heap a oe D none := by
    obtain ⟨oc, od, oda, osl⟩ := oe
    obtain ⟨h1, h2⟩ := hz
    dsimp only at h1 h2 hd
    subst h1 h2 hd
    exact ⟨he, rfl, rfl, trivial⟩
  exact PySem.W.kia_one (PySem.W.handS_kitx_exc C.hg C.hk C.hs C.hd C.ha C.hn C.ht C.hm) I.kIn J e (fun z => nomatch z) fun tk => ⟨.bl b, H, I.kept (t' := tk) fun _ _ z => z, rfl, q⟩
end
end MW

set_option Elab.async false
set_option linter.all false
set_option maxRecDepth 100000
set_option maxHeartbeats 2000000
namespace MW
open PySem PySem.Spec PyProof.Rows L2
def isTrue1 : Value → Bool
  | .bool b => b
  | _ => false
theorem bools_of : ∀ {bs : List Bool} {us : List Value}, Vals (bs.map V.bl) us → us = bs.map Value.bool
  | [], us, r => by cases r; rfl
  | b :: bs, us, r => by
    cases r with
    | cons a t => rw [bools_of t, show _ = Value.bool b from a]; rfl
def rCntB (K : PySem.W.Frag) : V → List V → Hp → VK → Prop := fun x xs H Q => ∃ (p : Addr) (bs : List Bool), x = .ref p ∧ xs = [.bl true] ∧ SqL K H p (bs.map V.bl) ∧ Q (.int (bs.count true : Nat)) H
theorem mt_cntB {X : Cx} {K : PySem.W.Frag} (hK : X.K = K := by rfl) : MtR X "list.count" (rCntB K) := by
  subst hK
  intro pins s σ H x xs v us Q I rx rxs h
  obtain ⟨p, bs, rfl, rfl, hs, q⟩ := h
  cases rx
  obtain ⟨u, rfl, ru⟩ := rxs.one
  cases ru
  obtain ⟨its, rv, ⟨⟨cls, dd, data, sl⟩, n, ho, hc, hdn, hd⟩, hlen⟩ := I.list hs
  simp only at hc hd
  subst hc hd
  have hi := bools_of rv
  subst hi
  refine call_meets PySem.F.slot_list_count ⟨_, ho, rfl⟩ PySem.F.entry_list_count (PySem.F.args_list_count_2 _ _)
    (SeqAt.list_countAt p (bs.map Value.bool).toArray n dd sl (.bool true) isTrue1) ⟨ho, fun y hy => ?_, ?_⟩
  · have hy : y ∈ bs.map Value.bool := by simpa using hy
    obtain ⟨b, _, rfl⟩ := List.mem_map.mp hy
    have eb : eqV (.bl b) (.bl true) = isTrue1 (.bool b) := by cases b <;> rfl
    rw [← eb]
    exact eqAt_V (y := .bl b) (x := .bl true) rfl rfl rfl rfl
  · have ec : (bs.map Value.bool).toArray.toList.countP isTrue1 = bs.count true := by
      rw [List.toList_toArray, List.countP_map, List.count_eq_countP]
      congr 1
      funext b
      cases b <;> rfl
    refine ⟨.int (bs.count true : Nat), H, I.tok _, ⟨s.toks, ?_⟩, q⟩
    show Value.int (((bs.map Value.bool).toArray.toList.countP isTrue1 : Nat) : Int) s.toks = Value.int ((bs.count true : Nat) : Int) s.toks
    rw [ec]
theorem ka_index {X : Cx} {K : PySem.W.Frag} (hK : X.K = K := by rfl) : MtR X "list.index" (rIndex K) := hK ▸ mt_index
theorem kpe_bm {X : Cx} {K : PySem.W.Frag} {T id : String} {name : Str} {r : V → List V → Hp → VK → Prop} {o e : Expr} {es : List Expr} {to : TE} {t : TA} {apos cpos : Pos} (hK : X.K = K) (pa : PlainAttrs T) (slot : Slot T name id) (hty : typeOf (.builtin id) = pure (.type "method_descriptor")) (hm : MtR X id r) (ho : PE X o to) (ha : PA X (e :: es) t)
    (hbase : attributeBase o name X.env (eval o X.env) = eval o X.env := by rfl)
    (hfew : ((backTo cpos (starEach (e :: es) X.env)).all (fun x => !x.1) && (backToKw cpos (keywordEach [] X.env)).all (fun x => x.1.isSome)
      && decide ((e :: es).length + ([] : List Keyword).length + (if ([] : List Keyword).isEmpty then 0 else 1) < 30)) = true := by rfl)
    (hline : (apos.endLine == cpos.line) = true := by rfl) (hs : starEach (e :: es) X.env = (false, eval e X.env) :: starEach es X.env := by rfl) (hplain : (backTo cpos (starEach es X.env)).any (·.1) = false := by rfl) :
    PE X (.Call (.Attribute o name apos) (e :: es) [] cpos) (tBM K T r to t) := hK ▸ pe_bm pa slot hty hm ho ha hbase hfew hline hs hplain
section
variable {K : PySem.W.Frag} {σ : L2.St} {S : Sit} {to ta : TE}
theorem ev_cntB {bs : List Bool} (ho : EvD K to σ S (.list (bs.map PyData.bool))) : EvD K (tBM K "list" (rCntB K) to (tCons (tC (.bl true)) tNil)) σ S (.int (bs.count true : Nat)) := fun T a Q q =>
  ho T a _ fun v U l o => by
    obtain ⟨b, us, rfl, e1, e2⟩ := Da.lst_eq o
    have ev := e2.boolsV
    subst ev
    exact ⟨.inl ⟨rfl, _, SqL.of (U.sub _ _ e1)⟩, b, bs, rfl, rfl, SqL.of (U.sub _ _ e1), q _ U l (Da.int _)⟩
theorem ev_idxB {bs : List Bool} {j : Nat} (ho : EvD K to σ S (.list (bs.map PyData.bool))) (hj : bs[j]? = some true) (hb : ∀ m, m < j → bs[m]? = some false) : EvD K (tBM K "list" (rIndex K) to (tCons (tC (.bl true)) tNil)) σ S (.int (j : Nat)) := fun T a Q q =>
  ho T a _ fun v U l o => by
    obtain ⟨b, us, rfl, e1, e2⟩ := Da.lst_eq o
    have ev := e2.boolsV
    subst ev
    refine ⟨.inl ⟨rfl, _, SqL.of (U.sub _ _ e1)⟩, b, bs.map V.bl, .bl true, j, .bl true, rfl, rfl, SqL.of (U.sub _ _ e1), rfl, ?_, ?_, rfl, fun m z hm hz => ?_, q _ U l (Da.int _)⟩
    · rw [List.all_map]
      exact List.all_eq_true.mpr fun _ _ => rfl
    · rw [List.getElem?_map, hj]; rfl
    · rw [List.getElem?_map, hb m hm] at hz
      have := Option.some.inj hz
      subst this
      rfl
end
end MW

set_option Elab.async false
set_option linter.all false
set_option maxRecDepth 100000
set_option maxHeartbeats 2000000
namespace MW
open PySem PySem.Spec PyProof.Rows L2
/-! ### what the head looks at besides -/
def excB (K : PySem.W.Frag) (x : Str) : Bool :=
  He.eqO (PySem.W.findIn K (.ref (He.ga K x)) "__getattribute__") (some (some (.builtin "BaseException.__getattribute__"))) &&
  (He.eqO (PySem.W.findIn K (.ref (He.ga K x)) "__getattr__") (some none) &&
  (PySem.W.hasDictIn K (He.ga K x) &&
  (He.eqO (PySem.W.findIn K (.ref (He.ga K x)) "__class__") (some (some (.builtin "object.__class__"))) &&
  (He.eqO (PySem.W.specialIn K (.builtin "object.__class__") "__get__") (some (some (.builtin "getset_descriptor.__get__"))) &&
  (decide (PySem.W.takesIn K (.builtin "object.__class__") = some true) &&
  (decide (PySem.W.mroIn K (He.ga K x) (.type "object") = some true) &&
  (decide (PySem.W.kitOne K (.ref (He.ga K x)) (.type "ValueError") = some true) &&
  decide (PySem.W.exmOne K (.ref (He.ga K x)) (.ref (He.ga K "MarkError")) = some true))))))))
def kinds5 : List Str := ["BadRule", "BadFloor", "BadWalker", "BadNumber", "BadText"]
def kitsB (K : PySem.W.Frag) : Bool := kinds5.all fun x => excB K x && kinds5.all fun y => decide (PySem.W.kitOne K (.ref (He.ga K x)) (.ref (He.ga K y)) = some (decide (x = y)))
/-- what is known of the five -/
structure Kits (K : PySem.W.Frag) : Prop where
  ex : ∀ x ∈ kinds5, PySem.W.subIn K (.ref (He.ga K x)) (.type "BaseException") = some true → ExcC K (He.ga K x)
  ve : ∀ x ∈ kinds5, PySem.W.kitOne K (.ref (He.ga K x)) (.type "ValueError") = some true
  me : ∀ x ∈ kinds5, PySem.W.exmOne K (.ref (He.ga K x)) (.ref (He.ga K "MarkError")) = some true
  one : ∀ x ∈ kinds5, ∀ y ∈ kinds5, PySem.W.kitOne K (.ref (He.ga K x)) (.ref (He.ga K y)) = some (decide (x = y))
theorem kits_of {K : PySem.W.Frag} (h : kitsB K = true) : Kits K := by
  have h1 : ∀ x ∈ kinds5, excB K x = true ∧ ∀ y ∈ kinds5, PySem.W.kitOne K (.ref (He.ga K x)) (.ref (He.ga K y)) = some (decide (x = y)) := fun x hx => by
    obtain ⟨a, b⟩ := He.ba (List.all_eq_true.mp h x hx)
    exact ⟨a, fun y hy => of_decide_eq_true (List.all_eq_true.mp b y hy)⟩
  refine ⟨fun x hx hs => ?_, fun x hx => ?_, fun x hx => ?_, fun x hx => (h1 x hx).2⟩
  · obtain ⟨a1, b⟩ := He.ba (h1 x hx).1
    obtain ⟨a2, b⟩ := He.ba b
    obtain ⟨a3, b⟩ := He.ba b
    obtain ⟨a4, b⟩ := He.ba b
    obtain ⟨a5, b⟩ := He.ba b
    obtain ⟨a6, b⟩ := He.ba b
    obtain ⟨a7, b⟩ := He.ba b
    exact ⟨He.eqO_ok a1, He.eqO_ok a2, hs, a3, He.eqO_ok a4, He.eqO_ok a5, of_decide_eq_true a6, of_decide_eq_true a7⟩
  · obtain ⟨a1, b⟩ := He.ba (h1 x hx).1
    obtain ⟨a2, b⟩ := He.ba b
    obtain ⟨a3, b⟩ := He.ba b
    obtain ⟨a4, b⟩ := He.ba b
    obtain ⟨a5, b⟩ := He.ba b
    obtain ⟨a6, b⟩ := He.ba b
    obtain ⟨a7, b⟩ := He.ba b
    exact of_decide_eq_true (He.ba b).1
  · obtain ⟨a1, b⟩ := He.ba (h1 x hx).1
    obtain ⟨a2, b⟩ := He.ba b
    obtain ⟨a3, b⟩ := He.ba b
    obtain ⟨a4, b⟩ := He.ba b
    obtain ⟨a5, b⟩ := He.ba b
    obtain ⟨a6, b⟩ := He.ba b
    obtain ⟨a7, b⟩ := He.ba b
    exact of_decide_eq_true (He.ba b).2
end MW

set_option Elab.async false
set_option linter.all false
set_option maxRecDepth 100000
set_option maxHeartbeats 2000000
namespace MW
open PySem PySem.Spec PyProof.Rows L2
/-! ### a number that is not told -/
def EvZ (K : PySem.W.Frag) (te : TE) (σ : L2.St) (S : Sit) (φ : Int → Prop) : Prop := ∀ T, Le S T → ∀ Q : VK, (∀ i U, φ i → Le T U → Q (.int i) U.H) → te σ T.H Q
section
variable {K : PySem.W.Frag} {σ : L2.St} {S : Sit} {δ : List Sl} {ta tb te : TE} {φ ψ χ : Int → Prop}
theorem ez_of {i : Int} (h : EvD K te σ S (.int i)) (hi : φ i) : EvZ K te σ S φ := fun T a Q q => h T a _ fun v U l o => by
  have e := Da.int_eq o
  subst e
  exact q i U hi l
theorem ez_I0 {f : Int → Int → Int} (ha : EvZ K ta σ S φ) (hb : EvZ K tb σ S ψ) (h : ∀ i j, φ i → ψ j → χ (f i j)) : EvZ K (tOp (rI0 fun i j => .int (f i j)) ta tb) σ S χ := fun T a Q q =>
  ha T a _ fun i U1 h1 l1 => hb U1 (a.trans l1) _ fun j U2 h2 l2 => ⟨i, j, rfl, rfl, q _ U2 (h i j h1 h2) (l1.trans l2)⟩
theorem ez_I {C : Int → Int → Prop} {f : Int → Int → Int} (ha : EvZ K ta σ S φ) (hb : EvZ K tb σ S ψ) (hC : ∀ i j, φ i → ψ j → C i j) (h : ∀ i j, φ i → ψ j → χ (f i j)) : EvZ K (tOp (rI C fun i j => .int (f i j)) ta tb) σ S χ := fun T a Q q =>
  ha T a _ fun i U1 h1 l1 => hb U1 (a.trans l1) _ fun j U2 h2 l2 => ⟨i, j, rfl, rfl, hC i j h1 h2, q _ U2 (h i j h1 h2) (l1.trans l2)⟩
theorem st_asgZ {i : Nat} {D : Ends} (hE : Sv K S.G σ δ) (he : EvZ K te σ S φ) (k : ∀ n σ' T, φ n → Le S T → Sv K T.G σ' (δ.set i (.d (.int n))) → D.nx σ' T.H) : tAsg te (gName i) D σ S.H :=
  he S (Le.refl S) _ fun n U h l => k n _ U h l (Sv.set (slOk_d (Da.int n)) i (hE.up l.g))
theorem st_retZ {D : Ends} (he : EvZ K te σ S φ) (k : ∀ n T, φ n → Le S T → D.rt (.int n) T.H) : tRet te D σ S.H :=
  he S (Le.refl S) _ fun n U h l => k n U h l
/-! ### lists that are told by where they stand -/
theorem ev_lenQ {a : Addr} {xs : List V} (ha : Ev K ta σ S (.v (.ref a))) (h : ∀ T, Le S T → SqL K T.H a xs) : EvD K (tCB (rLen K) (tCons ta tNil)) σ S (.int (xs.length : Nat)) :=
  ev_cb1 ha fun T x l hx Q q => by
    cases (show some x = some (V.ref a) from hx)
    exact ⟨_, xs.length, rfl, .inl ⟨xs, h T l, rfl⟩, q _ T (Le.refl T) (Da.int _)⟩
theorem ev_ixQ {a : Addr} {ns : List Int} {i n : Int} (ha : Ev K ta σ S (.v (.ref a))) (hb : EvD K tb σ S (.int i)) (h : ∀ T, Le S T → SqL K T.H a (ns.map V.int)) (e : L2.atI (ns.map V.int) i = some (.int n)) : EvD K (tOp (rIxL K) ta tb) σ S (.int n) :=
  ev_two ha hb fun T x y l hx hy Q q => by
    cases (show some x = some (V.ref a) from hx)
    have ey := Da.int_eq hy
    subst ey
    exact ⟨a, _, i, _, rfl, rfl, h T l, e, q _ T (Le.refl T) (Da.int _)⟩
theorem eb_truQ {a : Addr} {xs : List V} (ha : Ev K ta σ S (.v (.ref a))) (h : ∀ T, Le S T → SqL K T.H a xs) : EvB K (fun σ H Q => ta σ H fun x H' => ∃ k, TruV K x H' k ∧ Q k H') σ S (!xs.isEmpty) := fun T l _ q => ha T l _ fun v U l1 o => by
  cases (show some v = some (V.ref a) from o)
  exact ⟨_, .inl ⟨xs, h U (l.trans l1), rfl⟩, q U l1⟩
end
/-- a text of numbers stands at a, in what stands for good -/
theorem sq_up {K : PySem.W.Frag} {S T : Sit} {a : Addr} {xs : List V} (h : SqL K S.G a xs) (g : Same S.G T.G) : SqL K T.H a xs := T.sub.seq (g.seq h)
/-! ### the draws: how many more there may be -/
def zeros (n : Nat) : List V := List.replicate n (.int 0)
theorem zeros_succ (n : Nat) : zeros n ++ [V.int 0] = zeros (n + 1) := by
  unfold zeros
  rw [List.replicate_succ']
def Town (S : Sit) (t : Addr) (b : Nat) : Prop := S.G t = none ∧ ∃ n, n + b ≤ 500000 ∧ S.H t = some (.lst (zeros n))
theorem Town.up {S T : Sit} {t : Addr} {b : Nat} (h : Town S t b) (l : Le S T) : Town T t b := by
  obtain ⟨g, n, hn, e⟩ := h
  exact ⟨(l.2.2 t _ e).trans g, n, hn, l.2.1 t _ e⟩
theorem Town.less {S : Sit} {t : Addr} {b c : Nat} (h : Town S t b) (hc : c ≤ b) : Town S t c := by
  obtain ⟨g, n, hn, e⟩ := h
  exact ⟨g, n, by omega, e⟩
abbrev Lt (t : Addr) (S T : Sit) : Prop := Lm [t] S T
theorem Lt.refl {t : Addr} (S : Sit) : Lt t S S := (Le.refl S).lm _
theorem Lt.trans {t : Addr} {S T U : Sit} (a : Lt t S T) (b : Lt t T U) (ht : ∃ o, T.H t = some o) : Lt t S U := by
  refine ⟨a.1.trans b.1, fun x o hx h => b.2.1 x o hx (a.2.1 x o hx h), fun x o h => ?_⟩
  by_cases e : x = t
  · subst e
    obtain ⟨o', h'⟩ := ht
    exact (b.2.2 x o' h').trans (a.2.2 x o h)
  · exact (b.2.2 x o (a.2.1 x o (by simp [e]) h)).trans (a.2.2 x o h)
theorem Town.has {S : Sit} {t : Addr} {b : Nat} (h : Town S t b) : ∃ o, S.H t = some o := let ⟨_, _, _, e⟩ := h; ⟨_, e⟩
/-! ### promises of the law's own reckoning -/
def sp__law_cell (K : PySem.W.Frag) : Sp := fun vs H Q _ => ∃ (S : Sit) (a : Addr) (ns : List Int) (k : Int), S.H = H ∧ Vs K S.G vs [.v (.ref a), .d (.int k)] ∧ SqL K S.G a (ns.map V.int) ∧ ∀ i T, Le S T → Q (.int i) T.H
def sp__law_mix (K : PySem.W.Frag) : Sp := fun vs H Q _ => ∃ (S : Sit) (a : Addr) (ns : List Int) (k : Int), S.H = H ∧ Vs K S.G vs [.v (.ref a), .d (.int k)] ∧ SqL K S.G a (ns.map V.int) ∧ ∀ i T, 0 ≤ i → Le S T → Q (.int i) T.H
def sp__law_draw (K : PySem.W.Frag) : Sp := fun vs H Q _ => ∃ (S : Sit) (a t : Addr) (ns : List Int) (many : Int) (b : Nat), S.H = H ∧ Vs K S.G vs [.v (.ref a), .v (.ref t), .d (.int many)] ∧ SqL K S.G a (ns.map V.int) ∧ Town S t (b + 1) ∧ 0 < many ∧
  ∀ i T, 0 ≤ i → i < many → Lt t S T → Town T t b → Q (.int i) T.H
def sp__law_pick (K : PySem.W.Frag) : Sp := fun vs H Q _ => ∃ (S : Sit) (a t : Addr) (ns : List Int) (ds : List PyData) (b : Nat), S.H = H ∧ Vs K S.G vs [.v (.ref a), .v (.ref t), .d (.list ds)] ∧ SqL K S.G a (ns.map V.int) ∧ Town S t (b + 1) ∧ 0 < ds.length ∧
  ∀ d v T, d ∈ ds → Lt t S T → Town T t b → Da K T.G v d → Q v T.H
/-- town.append(0) -/
theorem st_town {K : PySem.W.Frag} {σ : L2.St} {S : Sit} {D : Ends} {ta : TE} {t : Addr} {b : Nat} (ha : Ev K ta σ S (.v (.ref t))) (ht : Town S t (b + 1)) (k : ∀ T, Lt t S T → Town T t b → D.nx σ T.H) :
    tDrop (tBM K "list" rAppend ta (tCons (tC (.int 0)) tNil)) D σ S.H := ha S (Le.refl S) _ fun v U l o => by
  cases (show some v = some (V.ref t) from o)
  obtain ⟨g, n, hn, e⟩ := ht.up l
  refine ⟨.inl ⟨rfl, _, SqL.of e⟩, t, zeros n, .int 0, rfl, rfl, e, szl (by unfold zeros; rw [List.length_replicate]; omega), ?_⟩
  refine k (U.mut t (.lst (zeros n ++ [.int 0])) g) ⟨l.1, fun x u hx h => ?_, fun x u h => l.2.2 x u h⟩ ⟨g, n + 1, by omega, by rw [← zeros_succ]; exact upd_same⟩
  show upd U.H t _ x = some u
  rw [upd_ne (fun z => hx (by simp [z]))]
  exact l.2.1 x u h
/-! ### what may draw -/
/-- it comes to one of Φ's things, draws on the way: b ahead, b' behind -/
def EvN (K : PySem.W.Frag) (t : Addr) (te : TE) (σ : L2.St) (S : Sit) (b b' : Nat) (Φ : PyData → Prop) : Prop := ∀ T, Lt t S T → Town T t b → ∀ Q : VK, (∀ d v U, Φ d → Lt t T U → Town U t b' → Da K U.G v d → Q v U.H) → te σ T.H Q
def EvNA (K : PySem.W.Frag) (t : Addr) (ta : TA) (σ : L2.St) (S : Sit) (b b' : Nat) (Φ : List PyData → Prop) : Prop := ∀ T, Lt t S T → Town T t b → ∀ Q : List V → Hp → Prop, (∀ ds vs U, Φ ds → Lt t T U → Town U t b' → DaAll K U.G vs ds → Q vs U.H) → ta σ T.H Q
section
variable {K : PySem.W.Frag} {t : Addr} {σ : L2.St} {S : Sit} {δ : List Sl} {ta tb te : TE} {b b1 b2 : Nat}
theorem en_pure {d : PyData} (h : ∀ T, Same S.G T.G → EvD K te σ T d) : EvN K t te σ S b b (fun x => x = d) := fun T l ht Q q =>
  h T l.g T (Le.refl T) Q fun v U lU o => q d v U rfl (lU.lm _) (ht.up lU) o
theorem en_imp {Φ Ψ : PyData → Prop} (h : EvN K t te σ S b b1 Φ) (k : ∀ d, Φ d → Ψ d) : EvN K t te σ S b b1 Ψ := fun T l ht Q q => h T l ht Q fun d v U hd => q d v U (k d hd)
theorem en_nil : EvNA K t tNil σ S b b (fun x => x = []) := fun T l ht Q q => q [] [] T rfl (Lt.refl T) ht .nil
theorem en_cons {tr : TA} {Φ : PyData → Prop} {Ψ : List PyData → Prop} (ha : EvN K t ta σ S b b1 Φ) (hr : EvNA K t tr σ S b1 b2 Ψ) : EvNA K t (tCons ta tr) σ S b b2 (fun x => ∃ d ds, x = d :: ds ∧ Φ d ∧ Ψ ds) := fun T l ht Q q =>
  ha T l ht _ fun d v U hd lU tU o => hr U (l.trans lU ht.has) tU _ fun ds vs W hds lW tW o2 => q (d :: ds) (v :: vs) W ⟨d, ds, rfl, hd, hds⟩ (lU.trans lW tU.has) tW (.cons (Da.up lW.g o) o2)
theorem Town.push {U : Sit} {p : Addr} {o : HO} (h : Town U t b) (hp : U.H p = none) : Town (U.push p o hp) t b := h.up (U.push_le hp)
theorem en_tup {tr : TA} {Φ : List PyData → Prop} (ha : EvNA K t tr σ S b b1 Φ) (hl : ∀ ds, Φ ds → ds.length ≤ 1000000) : EvN K t (tTup tr) σ S b b1 (fun x => ∃ ds, x = .tuple ds ∧ Φ ds) := fun T l ht Q q =>
  ha T l ht _ fun ds vs U hds lU tU o => ⟨sz (by rw [o.length]; exact hl ds hds), fun p hp => q _ (.ref p) (U.push p _ hp) ⟨ds, rfl, hds⟩ (lU.trans ((U.push_le hp).lm _) tU.has) (tU.push hp) (Da.tup upd_same (DaAll.up (U.push_le hp).g o))⟩
theorem en_lst {tr : TA} {Φ : List PyData → Prop} (ha : EvNA K t tr σ S b b1 Φ) (hl : ∀ ds, Φ ds → ds.length ≤ 1000000) : EvN K t (tLst tr) σ S b b1 (fun x => ∃ ds, x = .list ds ∧ Φ ds) := fun T l ht Q q =>
  ha T l ht _ fun ds vs U hds lU tU o => ⟨sz (by rw [o.length]; exact hl ds hds), fun p hp => q _ (.ref p) (U.push p _ hp) ⟨ds, rfl, hds⟩ (lU.trans ((U.push_le hp).lm _) tU.has) (tU.push hp) (Da.lst upd_same (DaAll.up (U.push_le hp).g o))⟩
theorem en_I0 {f : Int → Int → Int} {φ ψ χ : Int → Prop} (ha : EvN K t ta σ S b b1 (fun d => ∃ i, d = .int i ∧ φ i)) (hb : EvN K t tb σ S b1 b2 (fun d => ∃ i, d = .int i ∧ ψ i)) (h : ∀ i j, φ i → ψ j → χ (f i j)) : EvN K t (tOp (rI0 fun i j => .int (f i j)) ta tb) σ S b b2 (fun d => ∃ i, d = .int i ∧ χ i) := fun T l ht Q q =>
  ha T l ht _ fun d v U hd lU tU o => hb U (l.trans lU ht.has) tU _ fun e w W he lW tW o2 => by
    obtain ⟨i, rfl, hi⟩ := hd
    obtain ⟨j, rfl, hj⟩ := he
    have e1 := Da.int_eq o
    have e2 := Da.int_eq o2
    subst e1 e2
    exact ⟨i, j, rfl, rfl, q _ _ W ⟨_, rfl, h i j hi hj⟩ (lU.trans lW tU.has) tW (Da.int _)⟩
/-- a draw -/
theorem en_draw {E : XK} {tr : TA} {a : Addr} {ns : List Int} {many : Int} (ha : ∀ T, Same S.G T.G → EvA K tr σ T [.v (.ref a), .v (.ref t), .d (.int many)]) (hs : SqL K S.G a (ns.map V.int)) (hm : 0 < many) :
    EvN K t (tCall (sp__law_draw K) [] E tr) σ S (b + 1) b (fun d => ∃ i, d = .int i ∧ 0 ≤ i ∧ i < many) := fun T l ht Q q =>
  ha T l.g T (Le.refl T) _ fun vs U lU o => by
    rw [List.append_nil]
    exact ⟨U, a, t, ns, many, b, rfl, o, (l.g.trans lU.g).seq hs, ht.up lU, hm, fun i W h0 h1 lW tW => q (.int i) _ W ⟨i, rfl, h0, h1⟩ (Lt.trans (lU.lm _) lW (ht.up lU).has) tW (Da.int i)⟩
theorem en_pick {E : XK} {tr : TA} {a : Addr} {ns : List Int} {ds : List PyData} (ha : ∀ T, Same S.G T.G → EvA K tr σ T [.v (.ref a), .v (.ref t), .d (.list ds)]) (hs : SqL K S.G a (ns.map V.int)) (hm : 0 < ds.length) :
    EvN K t (tCall (sp__law_pick K) [] E tr) σ S (b + 1) b (fun d => d ∈ ds) := fun T l ht Q q =>
  ha T l.g T (Le.refl T) _ fun vs U lU o => by
    rw [List.append_nil]
    exact ⟨U, a, t, ns, ds, b, rfl, o, (l.g.trans lU.g).seq hs, ht.up lU, hm, fun d v W hd lW tW oW => q d v W hd (Lt.trans (lU.lm _) lW (ht.up lU).has) tW oW⟩
theorem st_asgN {i : Nat} {D : Ends} {Φ : PyData → Prop} (hE : Sv K S.G σ δ) (ht : Town S t b) (he : EvN K t te σ S b b1 Φ) (k : ∀ d σ' T, Φ d → Lt t S T → Town T t b1 → Sv K T.G σ' (δ.set i (.d d)) → D.nx σ' T.H) : tAsg te (gName i) D σ S.H :=
  he S (Lt.refl S) ht _ fun d v U hd lU tU o => k d _ U hd lU tU (Sv.set (slOk_d o) i (hE.up lU.g))
theorem st_retN {D : Ends} {Φ : PyData → Prop} (ht : Town S t b) (he : EvN K t te σ S b b1 Φ) (k : ∀ d v T, Φ d → Lt t S T → Town T t b1 → Da K T.G v d → D.rt v T.H) : tRet te D σ S.H :=
  he S (Lt.refl S) ht _ fun d v U hd lU tU o => k d v U hd lU tU o
/-- town = [] -/
theorem st_town0 {i : Nat} {D : Ends} {b : Nat} (hE : Sv K S.G σ δ) (hb : b ≤ 500000) (k : ∀ t σ' T, Le S T → Town T t b → Sv K T.G σ' (δ.set i (.v (.ref t))) → D.nx σ' T.H) : tAsg (tLst tNil) (gName i) D σ S.H := by
  refine ⟨Nat.zero_le _, fun p hp => ?_⟩
  exact k p _ (S.pushM p (.lst []) hp) (S.pushM_le hp) ⟨S.gfree hp, 0, by omega, upd_same⟩ (Sv.set (slOk_v _) i hE)
end
end MW

set_option Elab.async false
set_option linter.all false
set_option maxRecDepth 100000
set_option maxHeartbeats 2000000
namespace MW
open PySem PySem.Spec PyProof.Rows L2
section
variable {K : PySem.W.Frag} {σ : L2.St} {S : Sit} {δ : List Sl} {ta tb : TE}
theorem ev_isNv {v : V} (ha : Ev K ta σ S (.v v)) : EvD K (tOp (fun x y H Q => y = V.non ∧ Q (.bl (decide (x = .non))) H) ta (tC .non)) σ S (.bool (decide (v = .non))) := fun T a Q q =>
  ha T a _ fun x U l o => by
    cases (show some x = some v from o)
    exact ⟨rfl, q _ U l (Da.bl _)⟩
theorem ev_isC {a D : Addr} {c : V} {cv : Value} {b : Bool} (ha : Ev K ta σ S (.v (.ref a))) (hX : S.H a = some (ExC (.ref D) a)) (C : ExcC K D) (hc : ∀ u, RelV c u → u = cv) (e : PySem.W.kitOne K (.ref D) cv = some b) :
    EvD K (tCB (rIsC K) (tCons ta (tCons (tC c) tNil))) σ S (.bool b) := fun T l Q q =>
  ha T l _ fun x U lU o => by
    cases (show some x = some (V.ref a) from o)
    exact ⟨a, D, c, cv, b, rfl, (l.trans lU).2.1 _ _ hX, C, hc, e, q _ U lU (Da.bl _)⟩
/-- found = f(..) in a try's body -/
theorem st_asgS {i : Nat} {sp : Sp} {E : L2.St → XK} {tr : TA} {ss : List Sl} {D : Ends} (ha : EvA K tr σ S ss) (k : ∀ vs T, Le S T → Vs K T.G vs ss → sp vs T.H (fun v H => D.nx (σ.set i (some v)) H) (E σ)) : tAsg (tCallS sp E tr) (gName i) D σ S.H :=
  ha S (Le.refl S) _ fun vs T l o => k vs T l o
/-- caught = e -/
theorem we_keep {c : Value} {i j : Nat} {D : Ends} {cls : Value} {s0 : Sl} (hE : Sv K S.G σ δ) (hi : δ[i]? = some s0) (hm : PySem.W.exmOne K cls c = some true)
    (k : ∀ a σ' T, Le S T → T.H a = some (ExC cls a) → Sv K T.G σ' (((δ.set i (.v (.ref a))).set j (.v (.ref a))).set i .non) → D.nx σ' T.H) : WE (wKeep K c i (tAsg (tVar i) (gName j)) D) σ cls none S.H := by
  refine ⟨rfl, hm, fun a ha => ?_⟩
  have hE1 : Sv K (S.pushM a (ExC cls a) ha).G (σ.set i (some (.ref a))) (δ.set i (.v (.ref a))) := Sv.set (slOk_v (K := K) (G := S.G) (.ref a)) i hE
  have hg : (δ.set i (Sl.v (.ref a)))[i]? = some (.v (.ref a)) := by
    obtain ⟨h, _⟩ := List.getElem?_eq_some_iff.mp hi
    rw [List.getElem?_set_self h]
  refine st_asg (K := K) (S := S.pushM a (ExC cls a) ha) (s := .v (.ref a)) hE1 (ev_varv hE1 hg) fun σ2 T2 l2 hE2 => ?_
  exact k a _ T2 ((S.pushM_le ha).trans l2) (l2.2.1 _ _ upd_same) (Sv.set (slOk_n none) i hE2)
end
def wordOf (x : Str) : Str := if x = "BadRule" then "rule" else if x = "BadFloor" then "floor" else if x = "BadWalker" then "walker" else if x = "BadNumber" then "number" else "text"
def eRef (x : Str) : PyData := .tuple [.str "refused", .str (wordOf x)]
def sp__law_refusal (K : PySem.W.Frag) : Sp := fun vs H Q _ => ∃ (S : Sit) (a : Addr) (x : Str), S.H = H ∧ Vs K S.G vs [.v (.ref a)] ∧ S.H a = some (ExC (.ref (He.ga K x)) a) ∧ x ∈ kinds5 ∧ ∀ v T, Le S T → Da K T.G v (eRef x) → Q v T.H
theorem kinds_ix {x : Str} (h : x ∈ kinds5) : ∃ j, (kinds5.map fun y => decide (x = y))[j]? = some true ∧ (∀ m, m < j → (kinds5.map fun y => decide (x = y))[m]? = some false) ∧ (kinds5.map fun y => decide (x = y)).count true = 1 ∧ L2.atI [PyData.str "rule", PyData.str "floor", PyData.str "walker", PyData.str "number", PyData.str "text"] (j : Nat) = some (.str (wordOf x)) := by
  unfold kinds5 at h
  simp only [List.mem_cons, List.not_mem_nil, or_false] at h
  rcases h with rfl | rfl | rfl | rfl | rfl
  · exact ⟨0, by decide, by decide, by decide, by rfl⟩
  · exact ⟨1, by decide, by decide, by decide, by rfl⟩
  · exact ⟨2, by decide, by decide, by decide, by rfl⟩
  · exact ⟨3, by decide, by decide, by decide, by rfl⟩
  · exact ⟨4, by decide, by decide, by decide, by rfl⟩
end MW

set_option Elab.async false
set_option linter.all false
set_option maxRecDepth 100000
set_option maxHeartbeats 2000000
namespace MW
open PySem PySem.Spec PyProof.Rows L2
/-- a list of one's own: told, and not yet given away -/
def Ow (K : PySem.W.Frag) (S : Sit) (p : Addr) (ds : List PyData) : Prop := S.G p = none ∧ ∃ xs, S.H p = some (.lst xs) ∧ DaAll K S.G xs ds
section
variable {K : PySem.W.Frag} {σ : L2.St} {S T : Sit} {δ : List Sl} {ta te : TE} {p t : Addr} {ds : List PyData} {D : Ends} {b b1 : Nat}
theorem Ow.lm {M : List Addr} (h : Ow K S p ds) (l : Lm M S T) (hp : p ∉ M) : Ow K T p ds := by
  obtain ⟨g, xs, e, d⟩ := h
  exact ⟨(l.2.2 p _ e).trans g, xs, l.2.1 p _ hp e, DaAll.up l.1 d⟩
theorem Ow.up (h : Ow K S p ds) (l : Le S T) : Ow K T p ds := h.lm (l.lm []) (by simp)
theorem Ow.has (h : Ow K S p ds) : ∃ o, S.H p = some o := let ⟨_, _, e, _⟩ := h; ⟨_, e⟩
theorem Lm.le0 (l : Lm [] S T) : Le S T := ⟨l.1, fun a o e => l.2.1 a o (by simp) e, l.2.2⟩
theorem Lm.transM {M N : List Addr} {U : Sit} (a : Lm M S T) (b : Lm N T U) (hN : ∀ x ∈ N, ∃ o, T.H x = some o) (hM : ∀ x ∈ M, ∃ o, T.H x = some o) : Lm (M ++ N) S U := by
  refine ⟨a.1.trans b.1, fun x o hx h => b.2.1 x o (fun z => hx (List.mem_append_right _ z)) (a.2.1 x o (fun z => hx (List.mem_append_left _ z)) h), fun x o h => ?_⟩
  by_cases e : x ∈ M
  · obtain ⟨o', h'⟩ := hM x e
    exact (b.2.2 x o' h').trans (a.2.2 x o h)
  · exact (b.2.2 x o (a.2.1 x o e h)).trans (a.2.2 x o h)
/-- x = [e, ..], a list of one's own -/
theorem st_own {i : Nat} {tr : TA} (hE : Sv K S.G σ δ) (ha : EvA K tr σ S (ds.map Sl.d)) (hl : ds.length ≤ 1000000) (k : ∀ p σ' T, Le S T → (∀ q o, S.H q = some o → q ≠ p) → Ow K T p ds → Sv K T.G σ' (δ.set i (.v (.ref p))) → D.nx σ' T.H) :
    tAsg (tLst tr) (gName i) D σ S.H := ha S (Le.refl S) _ fun xs U l o => by
  have h := Vs.da o
  refine ⟨sz (by rw [h.length]; exact hl), fun p hp => ?_⟩
  exact k p _ (U.pushM p (.lst xs) hp) (l.trans (U.pushM_le hp)) (fun q o hq e => by rw [e, ] at hq; rw [l.2.1 _ _ hq] at hp; cases hp) ⟨U.gfree hp, xs, upd_same, h⟩ (Sv.set (slOk_v (K := K) (G := U.G) (.ref p)) i (hE.up l.g))
/-- x.append(e) -/
theorem Ow.put {d : PyData} {v : V} (h : Ow K S p ds) (o : Da K S.G v d) (hl : ds.length < 900000) : ∃ xs, S.H p = some (.lst xs) ∧ xs.length < sizeLine ∧ ∃ g : S.G p = none, Lm [p] S (S.mut p (.lst (xs ++ [v])) g) ∧ Ow K (S.mut p (.lst (xs ++ [v])) g) p (ds ++ [d]) := by
  obtain ⟨g, xs, e, q⟩ := h
  refine ⟨xs, e, szl (by rw [q.length]; omega), g, ⟨Same.refl _, fun x u hx h => ?_, fun _ _ _ => rfl⟩, g, xs ++ [v], upd_same, q.append (.cons o .nil)⟩
  show upd S.H p _ x = some u
  rw [upd_ne (fun z => hx (by simp [z]))]
  exact h
theorem st_app {d : PyData} (ha : Ev K ta σ S (.v (.ref p))) (hp : Ow K S p ds) (hl : ds.length < 900000) (he : EvD K te σ S d) (k : ∀ T, Lm [p] S T → Ow K T p (ds ++ [d]) → D.nx σ T.H) :
    tDrop (tBM K "list" rAppend ta (tCons te tNil)) D σ S.H := ha S (Le.refl S) _ fun v U l o => by
  cases (show some v = some (V.ref p) from o)
  obtain ⟨_, ys, e0, _⟩ := hp.up l
  refine ⟨.inl ⟨rfl, _, SqL.of e0⟩, he U l _ fun y W lW oW => ?_⟩
  obtain ⟨xs, e1, e2, g, e3, e4⟩ := ((hp.up l).up lW).put oW hl
  refine ⟨p, xs, y, rfl, rfl, e1, e2, k _ ?_ e4⟩
  have := ((l.trans lW).lm []).transM e3 (fun x hx => by simp at hx; subst hx; exact ⟨_, e1⟩) (fun x hx => nomatch hx)
  exact this
theorem st_appN {Φ : PyData → Prop} (ha : Ev K ta σ S (.v (.ref p))) (hp : Ow K S p ds) (hpt : p ≠ t) (hl : ds.length < 900000) (ht : Town S t b) (he : EvN K t te σ S b b1 Φ) (k : ∀ d T, Φ d → Lm [t, p] S T → Town T t b1 → Ow K T p (ds ++ [d]) → D.nx σ T.H) :
    tDrop (tBM K "list" rAppend ta (tCons te tNil)) D σ S.H := ha S (Le.refl S) _ fun v U l o => by
  cases (show some v = some (V.ref p) from o)
  obtain ⟨_, ys, e0, _⟩ := hp.up l
  refine ⟨.inl ⟨rfl, _, SqL.of e0⟩, he U (l.lm _) (ht.up l) _ fun d y W hd lW tW oW => ?_⟩
  have oW' := (hp.up l).lm lW (by simp [hpt])
  obtain ⟨xs, e1, e2, g, e3, e4⟩ := oW'.put oW hl
  refine ⟨p, xs, y, rfl, rfl, e1, e2, k d _ hd ?_ ?_ e4⟩
  · have lt : Lm [t] S W := Lt.trans (l.lm _) lW (ht.up l).has
    exact lt.transM e3 (fun x hx => by simp at hx; subst hx; exact ⟨_, e1⟩) (fun x hx => by simp at hx; subst hx; exact tW.has)
  · obtain ⟨tg, n, hn, et⟩ := tW
    exact ⟨tg, n, hn, e3.2.1 _ _ (by simp [Ne.symm hpt]) et⟩
/-- given away: from now on it stands for good -/
theorem Ow.give (h : Ow K S p ds) : ∃ T : Sit, T.H = S.H ∧ Same S.G T.G ∧ Da K T.G (.ref p) (.list ds) ∧ (∀ q, q ≠ p → T.G q = S.G q) := by
  obtain ⟨g, xs, e, q⟩ := h
  exact ⟨S.freeze p _ e, rfl, S.freeze_g e g, Da.lst upd_same (DaAll.up (S.freeze_g e g) q), fun q hq => upd_ne hq⟩
theorem Sv.give {G : Hp} {v : V} {d : PyData} (o : Da K G v d) : ∀ {σ : L2.St} {δ : List Sl} {i : Nat}, Sv K G σ δ → δ[i]? = some (.v v) → Sv K G σ (δ.set i (.d d))
  | _, _, _, .nil, e => by simp at e
  | _, _, 0, .cons (a := x) a r, e => by
    simp at e
    subst e
    cases (show x = some v from a)
    exact .cons o r
  | _, _, i + 1, .cons a r, e => .cons a (Sv.give o (i := i) r (by simpa using e))
theorem Town.give (h : Town S t b) {T : Sit} (hT : T.H = S.H) (hg : ∀ q, q ≠ p → T.G q = S.G q) (hp : t ≠ p) : Town T t b := by
  obtain ⟨g, n, hn, e⟩ := h
  exact ⟨(hg t hp).trans g, n, hn, by rw [hT]; exact e⟩
/-- [e, ..] * n -/
theorem DaAll.rep {G : Hp} {xs : List V} {ds : List PyData} (h : DaAll K G xs ds) : ∀ n : Nat, DaAll K G (List.replicate n xs).flatten (List.replicate n ds).flatten
  | 0 => .nil
  | n + 1 => by
    rw [List.replicate_succ, List.replicate_succ, List.flatten_cons, List.flatten_cons]
    exact h.append (h.rep n)
theorem ev_rep {tb : TE} {n : Int} (ha : EvD K ta σ S (.list ds)) (hb : EvD K tb σ S (.int n)) (h0 : 0 ≤ n) (hn : n ≤ 1000) (hl : ds.length * n.toNat ≤ 1000000) : EvD K (tOp rRep ta tb) σ S (.list (List.replicate n.toNat ds).flatten) :=
  ev_two ha hb fun T x y _ hx hy Q q => by
    obtain ⟨a, xs, rfl, h1, h2⟩ := Da.lst_eq hx
    have ey := Da.int_eq hy
    subst ey
    refine ⟨a, n, xs, rfl, rfl, T.sub _ _ h1, by omega, by omega, sz (by rw [h2.length]; exact hl), fun p hp => ?_⟩
    exact q (.ref p) (T.push p _ hp) (T.push_le hp) (Da.lst upd_same (DaAll.up (T.push_le hp).g (h2.rep _)))
end
end MW

set_option Elab.async false
set_option linter.all false
set_option maxRecDepth 100000
set_option maxHeartbeats 2000000
namespace MW
open PySem PySem.Spec PyProof.Rows L2
/-! ### d.keys(), the keys being tuples -/
def iKeysT (td : TE) : TI := fun σ H R => td σ H fun x H1 => ∃ d o kvs, x = .ref d ∧ H1 d = some (.frz o (.dT kvs)) ∧ R (Itkt d o kvs) H1
section
variable {prog : Program} {w : World} {A : Around} {E : Value → Shared → Prop} {s : Shared}
theorem keys_meets (d : Addr) (hd : (d == sysModules) = false) : MeetsIn prog w (Builtin.«dict.keys» ⟨[.ref d], []⟩) (fun _ R s => s.TypeIs (.ref d) "dict" ∧ R (.ok (.ret (.ref s.heap.objs.size))) { s with heap := s.heap.push { cls := .type "dict_keys", data := .fields #[.ref d] } }) :=
  .of_wp fun A R s ⟨hT, h⟩ => by
    refine wpAny_bind ?_
    unfold Builtin.Dict.noArgs
    refine wpAny_bind (wpAny_notOrdered_dict hT (wpAny_pure ?_))
    refine wpAny_bind (m := Builtin.Dict.showsAll d) ?_
    unfold Builtin.Dict.showsAll
    rw [if_neg (by simp [hd])]
    exact wpAny_pure (wpAny_bind (wpAny_newObj_type (wpAny_pure ⟨_, rfl, h⟩)))
theorem keys_iter {v d : Addr} {o : Obj} {es : Array DictEntry} {ep : Nat} {Q : Value → Shared → Prop} (hv : PySem.W.KdlKeysView s.heap v d) (ho : s.heap.get? d = some o) (hdat : o.data = .dict es ep)
    (hQ : Q (.ref s.heap.objs.size) { s with heap := s.heap.push { cls := .type "dict_keyiterator", data := .fields #[.ref d, .int 0 0, .int es.size 0, .int ep 0] } }) : wpAny (model prog w) A (pyIter (.ref v)) Q E s := by
  obtain ⟨ov, hov, hcv, hdv⟩ := id hv
  refine wpAny_pyIter_slot hv.typeIs PySem.W.kdl_slot_keys_iter (wpAny_call_entry PySem.W.kdl_slot_keys_iter hv.typeIs PySem.W.kdl_entry_keys_iter ?_ (PySem.W.kdl_args_keys_iter _))
  unfold Builtin.«dict_keys.__iter__»
  refine wpAny_bind (wpAny_pure (wpAny_bind ?_))
  unfold Builtin.Dict_items.dictOf
  refine wpAny_bind (wpAny_field hov hdv (x := .ref d) rfl (wpAny_pure (wpAny_bind ?_)))
  unfold Builtin.Dict_items.newIterator
  refine wpAny_bind (wpAny_dictEntries ho hdat (wpAny_bind (wpAny_dictEpoch ho hdat ?_)))
  have own : Builtin.Dict_items.ownsTuple "dict_keyiterator" = false := by decide
  simp only [own, Bool.false_eq_true, if_false]
  refine wpAny_newObj_type (wpAny_pure ⟨_, rfl, "dict_keyiterator", _, ⟨_, Heap.get?_push_size _ rfl, rfl⟩, PySem.F.slot_dict_keyiterator_next.lookup, ?_⟩)
  simpa [rawInt] using hQ
end
theorem pi_keysT {X : Cx} {tg e : Expr} {td : TE} {apos cpos : Pos} (he : PE X e td) (hbase : attributeBase e "keys" X.env (eval e X.env) = eval e X.env := by rfl) (hline : (apos.endLine == cpos.line) = true := by rfl) : PI X tg (.Call (.Attribute e "keys" apos) [] [] cpos) (iKeysT td) := by
  refine ⟨fun pins s σ H R I h => ?_⟩
  refine wpAny_Call_method (T := "dict") (id := "dict.keys") hbase rfl hline F.plainAttrs_dict F.slot_dict_keys F.type_dict_keys (thn (he.run pins s σ H _ I h) fun u s1 ⟨x, H1, I1, rx, d, o, kvs, ex, hd, q⟩ => ?_)
  subst ex
  obtain rfl : u = Value.ref d := rx
  obtain ⟨hs, hgd, hx, es, ep, hdt, hsz, ent⟩ := I1.frzT hd
  have hT : s1.TypeIs (.ref d) "dict" := ⟨o, hgd, hx.1⟩
  refine ⟨hT, fun b z => ?_, ?_⟩
  · cases z
    exact ⟨o, hgd, hx.2.1⟩
  have I2 : L2.Inv X pins σ H1 { s1 with heap := s1.heap.push { cls := .type "dict_keys", data := .fields #[.ref d] } } := I1.kept (t' := s1.toks) fun b ob q => Heap.get?_push_of_some _ q
  have fin : wpAny (model X.prog X.w) X.A (pyIter (.ref s1.heap.objs.size)) (PIE X pins σ tg R) X.xe { s1 with heap := s1.heap.push { cls := .type "dict_keys", data := .fields #[.ref d] } } := by
    refine keys_iter (d := d) ⟨_, Heap.get?_push_size _ rfl, rfl, rfl⟩ (Heap.get?_push_of_some _ hgd) hdt (pi_one (tk := s1.toks) I2 _ (turn_keysT _ hdt) ⟨_, Heap.get?_push_size _ rfl, rfl, ?_⟩ q)
    rw [hsz]
    rfl
  show wpAny _ _ (callWith cpos (.builtin "dict.keys") [.ref d] [] []) _ X.xe s1
  exact method_meetsIn F.slot_dict_keys F.entry_dict_keys rfl (PySem.evalArgs_none ⟨rfl, hT, F.args_dict_keys_1 _, _, keys_meets d hs, hT, fin⟩)
/-! ### dicts whose keys are places -/
class DV (γ : Type) where
  ev : γ → V
  ed : γ → PyData
  da : ∀ (K : PySem.W.Frag) (G : Hp) (c : γ), Da K G (ev c) (ed c)
  back : ∀ (K : PySem.W.Frag) (G : Hp) (c : γ) (v : V), Da K G v (ed c) → v = ev c
instance : DV Int := ⟨.int, .int, fun _ _ c => Da.int c, fun _ _ _ _ h => Da.int_eq h⟩
instance : DV Bool := ⟨.bl, .bool, fun _ _ c => Da.bl c, fun _ _ _ _ h => Da.bl_eq h⟩
abbrev Dd (γ : Type) := List (Pl × γ)
def kP (p : Pl) : List L2.Key := [.inl p.1, .inl p.2]
theorem kP_inj {p q : Pl} (h : kP p = kP q) : p = q := by
  unfold kP at h
  simp only [List.cons.injEq, Sum.inl.injEq, and_true] at h
  exact Prod.ext h.1 h.2
section
variable {γ : Type} [DV γ]
def eDk (q : Pl × γ) : List L2.Key × V := (kP q.1, DV.ev q.2)
def dget (D : Dd γ) (p : Pl) : Option γ := (D.find? fun q => decide (q.1 = p)).map (·.2)
def dput (D : Dd γ) (p : Pl) (c : γ) : Dd γ := if (D.any fun q => decide (q.1 = p)) = true then D.map (fun q => if q.1 = p then (q.1, c) else q) else D ++ [(p, c)]
theorem key_dec (q : Pl × γ) (p : Pl) : decide ((eDk q).1 = kP p) = decide (q.1 = p) := by
  by_cases h : q.1 = p
  · simp [eDk, h]
  · have : ¬ kP q.1 = kP p := fun z => h (kP_inj z)
    simp [eDk, h, this]
theorem valV_D (D : Dd γ) (p : Pl) : valV (D.map eDk) (kP p) = (dget D p).map DV.ev := by
  unfold valV dget
  induction D with
  | nil => rfl
  | cons q D ih =>
    rw [List.map_cons, List.find?_cons, List.find?_cons, key_dec]
    cases decide (q.1 = p) with
    | true => rfl
    | false => exact ih
theorem any_D (D : Dd γ) (p : Pl) : ((D.map eDk).any fun kv => decide (kv.1 = kP p)) = D.any fun q => decide (q.1 = p) := by
  rw [List.any_map]
  congr 1
  funext q
  exact key_dec q p
theorem putK_D (D : Dd γ) (p : Pl) (c : γ) : putK (D.map eDk) (kP p) (DV.ev c) = (dput D p c).map eDk := by
  unfold putK dput
  rw [any_D]
  split
  · rw [List.map_map, List.map_map]
    refine List.map_congr_left fun q _ => ?_
    show (if (eDk q).1 = kP p then ((eDk q).1, DV.ev c) else eDk q) = eDk (if q.1 = p then (q.1, c) else q)
    by_cases h : q.1 = p
    · rw [if_pos h, if_pos (by simp [eDk, h])]; rfl
    · rw [if_neg h, if_neg (show ¬ (eDk q).1 = kP p from fun z => h (kP_inj z))]
  · simp [eDk]
theorem dput_len (D : Dd γ) (p : Pl) (c : γ) : (dput D p c).length ≤ D.length + 1 := by
  unfold dput
  split <;> simp
end
/-- a dict of one's own -/
def Dc {γ : Type} [DV γ] (S : Sit) (a : Addr) (D : Dd γ) : Prop := S.G a = none ∧ S.H a = some (.dT (D.map eDk))
section
variable {γ : Type} [DV γ] {K : PySem.W.Frag} {σ : L2.St} {S T : Sit} {δ : List Sl} {td ty tv te : TE} {a t : Addr} {D : Dd γ} {p : Pl} {b b1 : Nat}
theorem Dc.lm {M : List Addr} (h : Dc S a D) (l : Lm M S T) (hp : a ∉ M) : Dc T a D := ⟨(l.2.2 a _ h.2).trans h.1, l.2.1 a _ hp h.2⟩
theorem Dc.up (h : Dc S a D) (l : Le S T) : Dc T a D := h.lm (l.lm []) (by simp)
theorem Dc.has (h : Dc S a D) : ∃ o, S.H a = some o := ⟨_, h.2⟩
/-- x = {} -/
theorem st_dictN {i : Nat} {X : Ends} (hE : Sv K S.G σ δ) (k : ∀ p σ' T, Le S T → (∀ q o, S.H q = some o → q ≠ p) → Dc T p ([] : Dd γ) → Sv K T.G σ' (δ.set i (.v (.ref p))) → X.nx σ' T.H) : tAsg tDNewT (gName i) X σ S.H := fun p hp =>
  k p _ (S.pushM p (.dT []) hp) (S.pushM_le hp) (fun q o hq e => by rw [e, hp] at hq; cases hq) ⟨S.gfree hp, upd_same⟩ (Sv.set (slOk_v (K := K) (G := S.G) (.ref p)) i hE)
/-- a place stands as a key -/
theorem da_key {G : Hp} {v : V} (h : Da K G v (eP p)) : ∃ b, v = .ref b ∧ G b = some (.tup ((kP p).map kV)) := by
  obtain ⟨b, xs, rfl, e1, e2⟩ := Da.tup_eq h
  have e := DaAll.intsV (ns := [p.1, p.2]) e2
  subst e
  exact ⟨b, rfl, e1⟩
theorem dg_of (h : Dc T a D) {b : Addr} (hb : T.G b = some (.tup ((kP p).map kV))) : DGet T.H a (.ref b) ((dget D p).map DV.ev) := by
  rw [← valV_D]
  exact DGet.t h.2 (T.sub _ _ hb)
/-- d.get(place, c) -/
theorem ev_dget2 {c0 : γ} {tx : TE} (hd : Ev K td σ S (.v (.ref a))) (hD : Dc S a D) (hk : EvD K ty σ S (eP p)) (hx : EvD K tx σ S (DV.ed c0)) : EvD K (tDGet2 td ty tx) σ S (DV.ed ((dget D p).getD c0)) := fun T l Q q =>
  hd T l _ fun v U lU o => by
    cases (show some v = some (V.ref a) from o)
    refine ⟨a, rfl, .inr ⟨_, .inl ((hD.up (l.trans lU)).2)⟩, hk U (l.trans lU) _ fun y W lW oW => ?_⟩
    obtain ⟨b, rfl, eb⟩ := da_key oW
    refine hx W ((l.trans lU).trans lW) _ fun z Z lZ oZ => ⟨_, dg_of (hD.up (((l.trans lU).trans lW).trans lZ)) (lZ.g _ _ eb), ?_⟩
    have ez := DV.back K _ c0 z oZ
    subst ez
    have e : ((dget D p).map DV.ev).getD (DV.ev c0) = DV.ev ((dget D p).getD c0) := by cases dget D p <;> rfl
    rw [e]
    exact q _ Z ((lU.trans lW).trans lZ) (DV.da K _ _)
/-- d[place] -/
theorem ev_dget {c : γ} (hd : Ev K td σ S (.v (.ref a))) (hD : Dc S a D) (hk : EvD K ty σ S (eP p)) (hc : dget D p = some c) : EvD K (tDGet td ty) σ S (DV.ed c) := fun T l Q q =>
  hd T l _ fun v U lU o => by
    cases (show some v = some (V.ref a) from o)
    refine hk U (l.trans lU) _ fun y W lW oW => ?_
    obtain ⟨b, rfl, eb⟩ := da_key oW
    refine ⟨a, DV.ev c, rfl, ?_, q _ W (lU.trans lW) (DV.da K _ _)⟩
    have z := dg_of (p := p) (hD.up ((l.trans lU).trans lW)) eb
    rw [hc] at z
    exact z
/-- place in d -/
theorem ev_din (hk : EvD K ty σ S (eP p)) (hd : Ev K td σ S (.v (.ref a))) (hD : Dc S a D) : EvD K (tDIn ty td) σ S (.bool (dget D p).isSome) := fun T l Q q =>
  hk T l _ fun y U lU oU => hd U (l.trans lU) _ fun v W lW o => by
    cases (show some v = some (V.ref a) from o)
    obtain ⟨b, rfl, eb⟩ := da_key oU
    refine ⟨a, _, rfl, dg_of (p := p) (hD.up ((l.trans lU).trans lW)) (lW.g _ _ eb), ?_⟩
    rw [Option.isSome_map]
    exact q _ W (lU.trans lW) (Da.bl _)
theorem Dc.mut (h : Dc S a D) (D' : Dd γ) : ∃ T : Sit, T.H = upd S.H a (.dT (D'.map eDk)) ∧ Lm [a] S T ∧ Dc T a D' := by
  refine ⟨S.mut a (.dT (D'.map eDk)) h.1, rfl, ⟨Same.refl _, fun x u hx e => ?_, fun _ _ _ => rfl⟩, h.1, upd_same⟩
  show upd S.H a _ x = some u
  rw [upd_ne (fun z => hx (by simp [z]))]
  exact e
/-- d[place] = c -/
theorem st_dput {X : Ends} {c : γ} (hv : EvD K tv σ S (DV.ed c)) (hd : Ev K td σ S (.v (.ref a))) (hk : EvD K ty σ S (eP p)) (hD : Dc S a D) (hl : D.length < 900000) (k : ∀ T, Lm [a] S T → Dc T a (dput D p c) → X.nx σ T.H) : sDPut td ty tv X σ S.H :=
  hv S (Le.refl S) _ fun v U1 l1 o1 => hd U1 l1 _ fun x U2 l2 o2 => by
    cases (show some x = some (V.ref a) from o2)
    refine hk U2 (l1.trans l2) _ fun y U3 l3 o3 => ?_
    obtain ⟨b, rfl, eb⟩ := da_key o3
    have l := (l1.trans l2).trans l3
    have h3 := hD.up l
    have ev := DV.back K _ c v (Da.up (l2.trans l3).g o1)
    subst ev
    obtain ⟨T, eT, lT, dT⟩ := h3.mut (dput D p c)
    refine ⟨a, _, rfl, DPut.t (k := kP p) h3.2 (U3.sub _ _ eb) (szl (by rw [List.length_map]; omega)), ?_⟩
    rw [putK_D, ← eT]
    exact k T ((l.lm []).transM lT (fun x hx => by simp at hx; subst hx; exact h3.has) (fun x hx => nomatch hx)) dT
/-- .. a drawn one -/
theorem st_dputN {X : Ends} {Φ : γ → Prop} (hv : EvN K t tv σ S b b1 (fun d => ∃ c, d = DV.ed c ∧ Φ c)) (ht : Town S t b) (hta : a ≠ t) (hd : ∀ T, Same S.G T.G → Ev K td σ T (.v (.ref a))) (hk : ∀ T, Same S.G T.G → EvD K ty σ T (eP p)) (hD : Dc S a D) (hl : D.length < 900000)
    (k : ∀ c T, Φ c → Lm [t, a] S T → Town T t b1 → Dc T a (dput D p c) → X.nx σ T.H) : sDPut td ty tv X σ S.H :=
  hv S (Lt.refl S) ht _ fun d v U1 hc l1 t1 o1 => by
    obtain ⟨c, rfl, hc⟩ := hc
    refine hd U1 l1.g U1 (Le.refl _) _ fun x U2 l2 o2 => ?_
    cases (show some x = some (V.ref a) from o2)
    refine hk U1 l1.g U2 l2 _ fun y U3 l3 o3 => ?_
    obtain ⟨b0, rfl, eb⟩ := da_key o3
    have h3 := (hD.lm l1 (by simp [hta])).up (l2.trans l3)
    have ev := DV.back K _ c v (Da.up (l2.trans l3).g o1)
    subst ev
    obtain ⟨T, eT, lT, dT⟩ := h3.mut (dput D p c)
    refine ⟨a, _, rfl, DPut.t (k := kP p) h3.2 (U3.sub _ _ eb) (szl (by rw [List.length_map]; omega)), ?_⟩
    rw [putK_D, ← eT]
    have t3 := t1.up (l2.trans l3)
    have l13 : Lm [t] S U3 := Lt.trans l1 ((l2.trans l3).lm _) t1.has
    refine k c T hc (l13.transM lT (fun x hx => by simp at hx; subst hx; exact h3.has) (fun x hx => by simp at hx; subst hx; exact t3.has)) ?_ dT
    obtain ⟨tg, n, hn, et⟩ := t3
    exact ⟨(lT.2.2 t _ et).trans tg, n, hn, lT.2.1 t _ (by simp [Ne.symm hta]) et⟩
end
/-! ### a dict is walked -/
mutual
theorem Da.without {K : PySem.W.Frag} {G G' : Hp} (h1 : ∀ a xs, G a = some (.lst xs) → G' a = some (.lst xs)) (h2 : ∀ a xs, G a = some (.tup xs) → G' a = some (.tup xs)) : ∀ {d : PyData} {v : V}, Da K G v d → Da K G' v d
  | .none, _, h => by cases h; exact .non
  | .bool _, _, h => by cases h; exact .bl _
  | .int _, _, h => by cases h; exact .int _
  | .str _, _, h => by cases h; exact .str _
  | .list _, _, h => by
    obtain ⟨a, xs, rfl, e1, e2⟩ := Da.lst_eq h
    exact .lst (h1 _ _ e1) (DaAll.without h1 h2 e2)
  | .tuple _, _, h => by
    obtain ⟨a, xs, rfl, e1, e2⟩ := Da.tup_eq h
    exact .tup (h2 _ _ e1) (DaAll.without h1 h2 e2)
  | .dict _, _, h => nomatch h
theorem DaAll.without {K : PySem.W.Frag} {G G' : Hp} (h1 : ∀ a xs, G a = some (.lst xs) → G' a = some (.lst xs)) (h2 : ∀ a xs, G a = some (.tup xs) → G' a = some (.tup xs)) : ∀ {ds : List PyData} {vs : List V}, DaAll K G vs ds → DaAll K G' vs ds
  | [], _, h => by cases h; exact .nil
  | _ :: _, _, h => by
    cases h with
    | cons a t => exact .cons (Da.without h1 h2 a) (DaAll.without h1 h2 t)
end
/-- while d is locked it stands for good -/
def Sit.lock (S : Sit) (d : Addr) (o : Obj) (u : HO) : Sit := ⟨upd S.G d (.frz o u), upd S.H d (.frz o u), fun b v e => by
  by_cases q : b = d
  · subst q; rw [upd_same] at e ⊢; exact e
  · rw [upd_ne q] at e ⊢; exact S.sub b v e, fun b xs e => by
  by_cases q : b = d
  · subst q; rw [upd_same] at e; cases e
  · rw [upd_ne q] at e ⊢; exact S.tup b xs e⟩
def Sit.unlock (S : Sit) (d : Addr) (u : HO) (hu : ∀ xs, u ≠ .tup xs) : Sit := ⟨fun b => if b = d then none else S.G b, upd S.H d u, fun b v e => by
  have e : (if b = d then none else S.G b) = some v := e
  by_cases q : b = d
  · rw [if_pos q] at e; cases e
  · rw [if_neg q] at e; rw [upd_ne q]; exact S.sub b v e, fun b xs e => by
  by_cases q : b = d
  · subst q; rw [upd_same] at e; exact absurd (Option.some.inj e) (hu xs)
  · rw [upd_ne q] at e; show (if b = d then none else S.G b) = _; rw [if_neg q]; exact S.tup b xs e⟩
section
variable {γ : Type} [DV γ] {K : PySem.W.Frag} {σ : L2.St} {S T : Sit} {δ : List Sl} {td ty te : TE} {d : Addr} {D : Dd γ} {p : Pl}
theorem lock_back {o : Obj} {U : Sit} (hD : Dc T d D) (l : Le (T.lock d o (.dT (D.map eDk))) U) : Le T (U.unlock d (.dT (D.map eDk)) (fun _ z => HO.noConfusion z)) := by
  have ne : ∀ {b o}, T.G b = some o → b ≠ d := fun e z => by rw [z, hD.1] at e; cases e
  refine ⟨fun b v e => ?_, fun b v e => ?_, fun b v e => ?_⟩
  · show (if b = d then none else U.G b) = some v
    rw [if_neg (ne e)]
    exact l.1 b v (by show upd T.G d _ b = some v; rw [upd_ne (ne e)]; exact e)
  · show upd U.H d _ b = some v
    by_cases q : b = d
    · rw [q, hD.2] at e
      rw [q, upd_same]
      exact e
    · rw [upd_ne q]
      exact l.2.1 b v (by show upd T.H d _ b = some v; rw [upd_ne q]; exact e)
  · show (if b = d then none else U.G b) = T.G b
    by_cases q : b = d
    · rw [if_pos q, q, hD.1]
    · rw [if_neg q]
      have z := l.2.2 b v (by show upd T.H d _ b = some v; rw [upd_ne q]; exact e)
      rw [z]
      show upd T.G d _ b = T.G b
      rw [upd_ne q]
theorem lock_at {o : Obj} {U : Sit} (l : Le (T.lock d o (.dT (D.map eDk))) U) : U.G d = some (.frz o (.dT (D.map eDk))) := l.1 d _ upd_same
/-- an expression in which d is walked -/
theorem ev_lock {r : PyData} (hD : Dc S d D) (h : ∀ (T : Sit) (o : Obj), Le S T → Same S.G (T.lock d o (.dT (D.map eDk))).G → (T.lock d o (.dT (D.map eDk))).G d = some (.frz o (.dT (D.map eDk))) → EvD K te σ (T.lock d o (.dT (D.map eDk))) r) : EvD K (tLockE te) σ S r := fun T l Q q => by
  have hT := hD.up l
  refine ⟨d, _, hT.2, trivial, fun o => ?_⟩
  have sg : Same T.G (T.lock d o (.dT (D.map eDk))).G := same_new hT.1
  refine h T o l (l.g.trans sg) upd_same (T.lock d o _) (Le.refl _) _ fun v U lU oU => ⟨U.sub _ _ (lock_at lU), ?_⟩
  have ed := lock_at lU
  refine q v (U.unlock d _ _) (lock_back hT lU) ?_
  refine Da.without (fun a xs e => ?_) (fun a xs e => ?_) oU
  · show (if a = d then none else U.G a) = _
    rw [if_neg (fun z => by rw [z, ed] at e; cases e)]
    exact e
  · show (if a = d then none else U.G a) = _
    rw [if_neg (fun z => by rw [z, ed] at e; cases e)]
    exact e
/-- the keys of a locked dict -/
theorem ei_keys {o : Obj} (hd : Ev K td σ S (.v (.ref d))) (hG : S.G d = some (.frz o (.dT (D.map eDk)))) : EvI K (iKeysT td) σ S (D.map fun q => eP q.1) := fun T l R q => hd T l _ fun v U lU oU => by
  cases (show some v = some (V.ref d) from oU)
  have gU := (l.trans lU).g _ _ hG
  refine ⟨d, o, _, rfl, U.sub _ _ gU, q _ U lU fun W gW => ?_⟩
  have hW := W.sub _ _ (gW _ _ gU)
  refine ⟨fun i hi => ⟨hW, by simpa using hi⟩, ⟨hW, by simp⟩, fun i d' x H' e hy => ?_⟩
  obtain ⟨rfl, k, v, b, e1, rfl, e2⟩ := hy
  refine ⟨rfl, ?_⟩
  rw [List.getElem?_map] at e e1
  obtain ⟨z, hz, rfl⟩ := Option.map_eq_some_iff.mp e
  rw [hz] at e1
  cases Option.some.inj e1
  exact Da.tup (W.tup _ _ e2) (DaAll.ints [z.1.1, z.1.2])
/-- d[place] of a locked dict -/
theorem ev_dgetL {o : Obj} {c : γ} (hd : Ev K td σ S (.v (.ref d))) (hG : S.G d = some (.frz o (.dT (D.map eDk)))) (hk : EvD K ty σ S (eP p)) (hc : dget D p = some c) : EvD K (tDGet td ty) σ S (DV.ed c) := fun T l Q q =>
  hd T l _ fun v U lU oU => by
    cases (show some v = some (V.ref d) from oU)
    refine hk U (l.trans lU) _ fun y W lW oW => ?_
    obtain ⟨b, rfl, eb⟩ := da_key oW
    refine ⟨d, DV.ev c, rfl, .inr ⟨D.map eDk, kP p, b, .inr ⟨o, W.sub _ _ (((l.trans lU).trans lW).g _ _ hG)⟩, rfl, W.sub _ _ eb, ?_⟩, q _ W (lU.trans lW) (DV.da K _ _)⟩
    rw [valV_D, hc]
    rfl
end
end MW

set_option Elab.async false
set_option linter.all false
set_option maxRecDepth 100000
set_option maxHeartbeats 2000000
namespace MW
open PySem PySem.Spec PyProof.Rows L2
section
variable {K : PySem.W.Frag} {σ : L2.St} {S : Sit} {δ : List Sl} {ta tb te : TE}
theorem ev_max2 {i j : Int} (ha : EvD K ta σ S (.int i)) (hb : EvD K tb σ S (.int j)) : EvD K (tCB (fun xs H Q => ∃ i j, xs = [.int i, .int j] ∧ Q (.int (if j > i then j else i)) H) (tCons ta (tCons tb tNil))) σ S (.int (if j > i then j else i)) :=
  ev_cb2 ha hb fun T x y _ hx hy Q q => by
    have ex := Da.int_eq hx; have ey := Da.int_eq hy
    subst ex ey
    exact ⟨i, j, rfl, q _ T (Le.refl T) (Da.int _)⟩
theorem ev_min2 {i j : Int} (ha : EvD K ta σ S (.int i)) (hb : EvD K tb σ S (.int j)) : EvD K (tCB (fun xs H Q => ∃ i j, xs = [.int i, .int j] ∧ Q (.int (if j < i then j else i)) H) (tCons ta (tCons tb tNil))) σ S (.int (if j < i then j else i)) :=
  ev_cb2 ha hb fun T x y _ hx hy Q q => by
    have ex := Da.int_eq hx; have ey := Da.int_eq hy
    subst ex ey
    exact ⟨i, j, rfl, q _ T (Le.refl T) (Da.int _)⟩
theorem ev_abs {i : Int} (ha : EvD K ta σ S (.int i)) : EvD K (tCB (fun xs H Q => ∃ i, xs = [.int i] ∧ Q (.int (if i < 0 then -i else i)) H) (tCons ta tNil)) σ S (.int (if i < 0 then -i else i)) :=
  ev_cb1 ha fun T x _ hx Q q => by
    have ex := Da.int_eq hx
    subst ex
    exact ⟨i, rfl, q _ T (Le.refl T) (Da.int _)⟩
abbrev rTupOf (K : PySem.W.Frag) : List V → Hp → VK → Prop := fun xs H Q => ∃ p ys, xs = [.ref p] ∧ ((SqL K H p ys ∧ ∀ l, H l = none → Q (.ref l) (upd H l (.tup ys))) ∨ (SqT K H p ys ∧ Q (.ref p) H))
abbrev rLstOf (K : PySem.W.Frag) : List V → Hp → VK → Prop := fun xs H Q => ∃ p ys, xs = [.ref p] ∧ (SqL K H p ys ∨ SqT K H p ys) ∧ ∀ l, H l = none → Q (.ref l) (upd H l (.lst ys))
theorem ev_tupOf {ds : List PyData} (ha : EvD K ta σ S (.list ds)) : EvD K (tCB (rTupOf K) (tCons ta tNil)) σ S (.tuple ds) :=
  ev_cb1 ha fun T x _ hx Q q => by
    obtain ⟨a, xs, rfl, h1, h2⟩ := Da.lst_eq hx
    exact ⟨a, xs, rfl, .inl ⟨SqL.of (T.sub _ _ h1), fun p hp => q (.ref p) (T.push p _ hp) (T.push_le hp) (Da.tup upd_same (DaAll.up (T.push_le hp).g h2))⟩⟩
theorem ev_lstOf {ds : List PyData} (ha : EvD K ta σ S (.list ds)) : EvD K (tCB (rLstOf K) (tCons ta tNil)) σ S (.list ds) :=
  ev_cb1 ha fun T x _ hx Q q => by
    obtain ⟨a, xs, rfl, h1, h2⟩ := Da.lst_eq hx
    exact ⟨a, xs, rfl, .inl (SqL.of (T.sub _ _ h1)), fun p hp => q (.ref p) (T.push p _ hp) (T.push_le hp) (Da.lst upd_same (DaAll.up (T.push_le hp).g h2))⟩
abbrev rStrI : List V → Hp → VK → Prop := fun xs H Q => ∃ i, xs = [.int i] ∧ i.natAbs.log2 < 1920 ∧ Q (.str (toString i)) H
theorem ev_strI {i : Int} (ha : EvD K ta σ S (.int i)) (hi : i.natAbs < 2 ^ 64) : EvD K (tCB rStrI (tCons ta tNil)) σ S (.str (toString i)) :=
  ev_cb1 ha fun T x _ hx Q q => by
    have ex := Da.int_eq hx
    subst ex
    refine ⟨i, rfl, ?_, q _ T (Le.refl T) (Da.str _)⟩
    by_cases h : i.natAbs = 0
    · rw [h]; decide
    · have := (Nat.log2_lt h).mpr hi
      omega
abbrev rJoin (K : PySem.W.Frag) : V → List V → Hp → VK → Prop := fun x xs H Q => ∃ a p, ∃ ys : List Str, x = .str a ∧ xs = [.ref p] ∧ (SqL K H p (ys.map V.str) ∨ SqT K H p (ys.map V.str)) ∧ (ys.map (·.length)).sum + ys.length * a.length ≤ 16777216 ∧ Q (.str (Txt.join a ys)) H
theorem ev_join {a : Str} {ys : List Str} (ha : EvD K ta σ S (.str a)) (hb : EvD K tb σ S (.list (ys.map PyData.str))) (hl : (ys.map (·.length)).sum + ys.length * a.length ≤ 16777216) : EvD K (tM1 (rJoin K) ta tb) σ S (.str (Txt.join a ys)) := fun T l Q q =>
  ha T l _ fun x U lU o => by
    have ex := Da.str_eq o
    subst ex
    refine ⟨⟨a, rfl⟩, hb U (l.trans lU) _ fun y W lW oW => ?_⟩
    obtain ⟨b, xs, rfl, h1, h2⟩ := Da.lst_eq oW
    have e := DaAll.strsV h2
    subst e
    exact ⟨a, b, ys, rfl, rfl, .inl (SqL.of (W.sub _ _ h1)), hl, q _ W (lU.trans lW) (Da.str _)⟩
theorem kp_join {X : Cx} {o e : Expr} {to te : TE} {apos pos : Pos} (hK : X.K = K) (ho : PE X o to) (he : PE X e te) (hs : starEach [e] X.env = [(false, eval e X.env)] := by rfl) (hbase : attributeBase o "join" X.env (eval o X.env) = eval o X.env := by rfl) (hline : (apos.endLine == pos.line) = true := by rfl) :
    PE X (.Call (.Attribute o "join" apos) [e] [] pos) (tM1 (rJoin K) to te) := hK ▸ pe_join ho he hs hbase hline
theorem kr_tupOf {X : Cx} (hK : X.K = K := by rfl) : CallR X (.type "tuple") (rTupOf K) := hK ▸ call_tuple_of
theorem kr_lstOf {X : Cx} (hK : X.K = K := by rfl) : CallR X (.type "list") (rLstOf K) := hK ▸ call_list_of
/-! ### what draws within -/
theorem ev_c {x : V} {d : PyData} (h : Da K S.G x d) : EvD K (tC x) σ S d := fun T l Q q => q x T (Le.refl T) (Da.up l.g h)
end
section
variable {K : PySem.W.Frag} {t : Addr} {σ : L2.St} {S : Sit} {δ : List Sl} {ta tb te : TE} {b b1 b2 : Nat} {Φ Ψ Χ : PyData → Prop}
theorem en_ev {d : PyData} {T : Sit} (h : EvD K te σ T d) {Q : VK} (q : ∀ v U, Le T U → Da K U.G v d → Q v U.H) : te σ T.H Q := h T (Le.refl T) Q q
/-- one argument, drawn -/
theorem en_u (F : TE → TE) (hF : ∀ ta σ H Q, F ta σ H Q = ta σ H fun x H1 => F (tC x) σ H1 Q) (ha : EvN K t ta σ S b b1 Φ) (hr : ∀ d, Φ d → ∃ c, Χ c ∧ ∀ x T, Same S.G T.G → EvD K (tC x) σ T d → EvD K (F (tC x)) σ T c) : EvN K t (F ta) σ S b b1 Χ := fun T l ht Q q => by
  rw [hF]
  refine ha T l ht _ fun d v U hd lU tU o => ?_
  obtain ⟨c, hc, h⟩ := hr d hd
  exact en_ev (h v U (l.g.trans lU.g) (ev_c o)) fun w W lW oW => q c w W hc (Lt.trans lU (lW.lm _) tU.has) (tU.up lW) oW
theorem en_b (F : TE → TE → TE) (hF : ∀ ta tb σ H Q, F ta tb σ H Q = ta σ H fun x H1 => tb σ H1 fun y H2 => F (tC x) (tC y) σ H2 Q) (ha : EvN K t ta σ S b b1 Φ) (hb : EvN K t tb σ S b1 b2 Ψ) (hr : ∀ d e, Φ d → Ψ e → ∃ c, Χ c ∧ ∀ x y T, Same S.G T.G → EvD K (tC x) σ T d → EvD K (tC y) σ T e → EvD K (F (tC x) (tC y)) σ T c) : EvN K t (F ta tb) σ S b b2 Χ := fun T l ht Q q => by
  rw [hF]
  refine ha T l ht _ fun d v U hd lU tU o => hb U (Lt.trans l lU ht.has) tU _ fun e v2 V he lV tV o2 => ?_
  obtain ⟨c, hc, h⟩ := hr d e hd he
  exact en_ev (h v v2 V ((l.g.trans lU.g).trans lV.g) (ev_c (Da.up lV.g o)) (ev_c o2)) fun w W lW oW => q c w W hc (Lt.trans (Lt.trans lU lV tU.has) (lW.lm _) tV.has) (tV.up lW) oW
theorem en_if {tt : TT} {c : Bool} (hc : ∀ T, Same S.G T.G → EvB K tt σ T c) (h1 : c = true → EvN K t ta σ S b b1 Φ) (h2 : c = false → EvN K t tb σ S b b1 Φ) : EvN K t (tIf tt ta tb) σ S b b1 Φ := fun T l ht Q q =>
  hc T l.g T (Le.refl T) _ fun U lU => by
    have l2 : Lt t S U := Lt.trans l (lU.lm _) ht.has
    have q' : ∀ d v W, Φ d → Lt t U W → Town W t b1 → Da K W.G v d → Q v W.H := fun d v W hd lW tW o => q d v W hd (Lt.trans (lU.lm _) lW (ht.up lU).has) tW o
    cases c with
    | true => exact iteT (h1 rfl U l2 (ht.up lU) Q q')
    | false => exact iteF (h2 rfl U l2 (ht.up lU) Q q')
theorem en_less {b' : Nat} (h : EvN K t te σ S b b1 Φ) (hb : b' ≤ b1) : EvN K t te σ S b b' Φ := fun T l ht Q q => h T l ht Q fun d v U hd lU tU o => q d v U hd lU (tU.less hb) o
theorem en_up {S' : Sit} (h : EvN K t te σ S b b1 Φ) (l : Lt t S S') (hs : Town S' t b ∨ ∃ o, S'.H t = some o) : EvN K t te σ S' b b1 Φ := fun T l2 ht Q q => by
  have hs' : ∃ o, S'.H t = some o := hs.elim (fun h => h.has) id
  exact h T (Lt.trans l l2 hs') ht Q q
/-- a test that draws: both ways -/
theorem st_ifN {t1 t2 : TS} {D : Ends} (ht : Town S t b) (he : EvN K t te σ S b b1 (fun d => ∃ c, d = .bool c)) (h1 : ∀ T, Lt t S T → Town T t b1 → t1 D σ T.H) (h2 : ∀ T, Lt t S T → Town T t b1 → t2 D σ T.H) : tIfS (tTest te) t1 t2 D σ S.H :=
  he S (Lt.refl S) ht _ fun d v U hd lU tU o => by
    obtain ⟨c, rfl⟩ := hd
    have ev := Da.bl_eq o
    subst ev
    refine ⟨c, rfl, ?_⟩
    cases c with
    | true => exact iteT (h1 U lU tU)
    | false => exact iteF (h2 U lU tU)
/-- a draw below a drawn number -/
theorem en_drawD {E : XK} {i j : Nat} {tm : TE} {a : Addr} {ns : List Int} {ψ : Int → Prop} (hE : Sv K S.G σ δ) (hi : δ[i]? = some (.v (.ref a))) (hj : δ[j]? = some (.v (.ref t))) (hm : EvN K t tm σ S b (b1 + 1) (fun d => ∃ m, d = .int m ∧ ψ m)) (hp : ∀ m, ψ m → 0 < m) (hs : SqL K S.G a (ns.map V.int)) :
    EvN K t (tCall (sp__law_draw K) [] E (tCons (tVar i) (tCons (tVar j) (tCons tm tNil)))) σ S b b1 (fun d => ∃ x m, d = .int x ∧ ψ m ∧ 0 ≤ x ∧ x < m) := fun T l ht Q q => by
  refine ⟨_, (hE.up l.g).val hi, _, (hE.up l.g).val hj, ?_⟩
  refine hm T l ht _ fun d v U hd lU tU o => ?_
  obtain ⟨m, rfl, hm⟩ := hd
  have ev := Da.int_eq o
  subst ev
  show sp__law_draw K ([V.ref a, V.ref t, V.int m] ++ []) U.H Q E
  rw [List.append_nil]
  exact ⟨U, a, t, ns, m, b1, rfl, .cons rfl (.cons rfl (.cons (Da.int m) .nil)), (l.g.trans lU.g).seq hs, tU, hp m hm, fun x W h0 h1 lW tW => q (.int x) _ W ⟨x, m, rfl, hm, h0, h1⟩ (Lt.trans lU lW tU.has) tW (Da.int x)⟩
/-! ### walks that draw -/
def EvIN (K : PySem.W.Frag) (t : Addr) (wi : TI) (σ : L2.St) (S : Sit) (b b' : Nat) (Φ : List PyData → Prop) : Prop := ∀ T, Lt t S T → Town T t b → ∀ R : It → Hp → Prop, (∀ ds J U, Φ ds → Lt t T U → Town U t b' → ItD K J U ds → R J U.H) → wi σ T.H R
theorem ein_pure {wi : TI} {ds : List PyData} (h : ∀ T, Same S.G T.G → EvI K wi σ T ds) : EvIN K t wi σ S b b (fun x => x = ds) := fun T l ht R q => h T l.g T (Le.refl T) R fun J U lU hJ => q ds J U rfl (lU.lm _) (ht.up lU) hJ
theorem ein_rng1 {φ : Int → Prop} (h : EvN K t te σ S b b1 (fun d => ∃ i, d = .int i ∧ φ i)) (hφ : ∀ i, φ i → -(2 ^ 62) ≤ i ∧ i < 2 ^ 62) : EvIN K t (iRng1 (tCons te tNil)) σ S b b1 (fun ds => ∃ i, φ i ∧ ds = rngD 0 i.toNat) := fun T l ht R q => by
  refine h T l ht _ fun d v U hd lU tU o => ?_
  obtain ⟨i, rfl, hi⟩ := hd
  have ev := Da.int_eq o
  subst ev
  obtain ⟨h1, h2⟩ := hφ i hi
  have z := ei_rng1 (K := K) (σ := σ) (S := U) (ta := tCons (tC (.int i)) tNil) (j := i) (ea_cons ev_ci ea_nil) h1 h2 U (Le.refl U) R fun J W lW hJ => q _ J W ⟨i, hi, rfl⟩ (Lt.trans lU (lW.lm _) tU.has) (tU.up lW) hJ
  exact z
/-- a list gathered by draws -/
theorem en_lc {α : Type} {enc : α → PyData} {wi : TI} {g : TG} {vs : List Nat} {Ψs : List α → Prop} {Φx : α → PyData → Prop} {N c : Nat} (hE : Sv K S.G σ δ) (hi : EvIN K t wi σ S b (b1 + N * c) (fun ds => ∃ xs : List α, ds = xs.map enc ∧ Ψs xs)) (hN : ∀ xs, Ψs xs → xs.length ≤ N) (hN2 : N ≤ 900000)
    (tgs : α → List (Nat × PyData)) (hg : ∀ xs, Ψs xs → ∀ x ∈ xs, Tg K g (enc x) (tgs x)) (hv : ∀ xs, Ψs xs → ∀ x ∈ xs, ∀ q ∈ tgs x, q.1 ∈ vs)
    (he : ∀ xs, Ψs xs → ∀ x ∈ xs, ∀ m σ' T, Lt t S T → Sv K T.G σ' (putD (vs.foldr (fun i δ => δ.set i .non) δ) (tgs x)) → EvN K t te σ' T (m + c) m (Φx x)) :
    EvN K t (tLc wi g tYes te vs) σ S b b1 (fun d => ∃ xs ds, Ψs xs ∧ d = .list ds ∧ Paired Φx xs ds) := fun T0 a0 ht0 Q q =>
  hi T0 a0 ht0 _ fun ds0 J U hds l tU hJ X hX => by
    obtain ⟨xs, rfl, hxs⟩ := hds
    have nt : t ≠ X := fun z => by obtain ⟨o, ho⟩ := tU.has; rw [z, hX] at ho; cases ho
    have lSU : Lt t S U := Lt.trans a0 l ht0.has
    have hlen : (xs.map enc).length = xs.length := List.length_map _
    have hle := hN xs hxs
    let I : Nat → Hp → Prop := fun i H => ∃ (T : Sit) (acc : List V) (es : List PyData), T.H = H ∧ Lt t U T ∧ Town T t (b1 + (N - i) * c) ∧ T.G X = none ∧ H X = some (.lst acc) ∧ DaAll K T.G acc es ∧ Paired Φx (xs.take i) es
    refine ⟨fun i m H => m = xs.length - i ∧ i ≤ xs.length ∧ I i H, ⟨xs.length, by simp, Nat.zero_le _, U.pushM X _ hX, [], [], rfl, (U.pushM_le hX).lm _, tU.up (U.pushM_le hX), U.gfree hX, upd_same, .nil, by simp; exact .nil⟩, ?_⟩
    rintro i m H ⟨rfl, hile, T, acc, es, rfl, lU, tT, gX, eX, dX, pX⟩
    obtain ⟨j1, j2, j3⟩ := hJ T lU.g
    by_cases hlt : i < xs.length
    · have hget : (xs.map enc)[i]? = some (enc xs[i]) := by rw [List.getElem?_map, List.getElem?_eq_getElem hlt]; rfl
      have hmem : xs[i] ∈ xs := List.getElem_mem hlt
      have htake : xs.take (i + 1) = xs.take i ++ [xs[i]] := by rw [List.take_add_one, List.getElem?_eq_getElem hlt]; rfl
      refine .inr ⟨j1 i (by rw [hlen]; exact hlt), I (i + 1), fun H' hN => ⟨xs.length - (i + 1), by omega, rfl, hlt, hN⟩, fun x H' hy => ?_⟩
      obtain ⟨e, hx⟩ := j3 i _ x H' hget hy
      subst e
      refine hg _ hxs _ hmem x _ T _ hx fun σ' h1 h2 => ⟨(h2 vs (hv _ hxs _ hmem)).trans ?_, ?_⟩
      · have idem : ∀ (ws : List Nat) (τ : L2.St), (∀ w ∈ ws, w ∈ vs) → wipe (wipe τ ws) vs = wipe τ vs := by
          intro ws
          induction ws with
          | nil => intro τ _; rfl
          | cons w ws ih =>
            intro τ hw
            show wipe ((wipe τ ws).set w none) vs = wipe τ vs
            rw [wipe_set (hw w (by simp)), ih τ fun z hz => hw z (by simp [hz])]
        exact idem vs σ fun w hw => hw
      · have lST : Lt t S T := Lt.trans lSU lU tU.has
        have hE' : Sv K T.G σ' (putD (vs.foldr (fun i δ => δ.set i .non) δ) (tgs xs[i])) := h1 _ ((hE.up lST.g).wipe vs)
        refine iteT (B := I (i + 1) T.H) ?_
        have hb : b1 + (N - i) * c = (b1 + (N - (i + 1)) * c) + c := by
          obtain ⟨k, hk⟩ : ∃ k, N - i = k + 1 := ⟨N - i - 1, by omega⟩
          rw [show N - (i + 1) = k by omega, hk, Nat.succ_mul]
          omega
        refine he xs hxs _ hmem (b1 + (N - (i + 1)) * c) σ' T lST hE' T (Lt.refl T) (by rw [← hb]; exact tT) _ fun d y W hd lW tW oW => ?_
        have gXW : W.G X = none := (lW.2.2 X _ eX).trans gX
        have eXW : W.H X = some (.lst acc) := lW.2.1 X _ (by simp [Ne.symm nt]) eX
        have lUW : Lt t U W := Lt.trans lU lW tT.has
        have hacc : acc.length ≤ 900000 := by
          have z1 := dX.length
          have z2 := Paired.length pX
          rw [List.length_take] at z2
          omega
        refine ⟨acc, eXW, szl (by omega), W.mut X _ gXW, acc ++ [y], es ++ [d], rfl, ⟨lUW.1, fun b o hn hb => ?_, lUW.2.2⟩, ?_, gXW, upd_same, (DaAll.up lW.g dX).append (.cons oW .nil), ?_⟩
        · show upd W.H X _ b = some o
          have nb : b ≠ X := fun z => by rw [z, hX] at hb; cases hb
          rw [upd_ne nb]
          exact lUW.2.1 b o hn hb
        · obtain ⟨tg, n, hn, et⟩ := tW
          refine ⟨tg, n, hn, ?_⟩
          show upd W.H X _ t = _
          rw [upd_ne nt]
          exact et
        · rw [htake]
          have app : ∀ {l : List α} {m : List PyData}, Paired Φx l m → Paired Φx (l ++ [xs[i]]) (m ++ [d]) := by
            intro l m h
            induction h with
            | nil => exact .cons hd .nil
            | cons a _ ih => exact .cons a ih
          exact app pX
    · have e : i = xs.length := by omega
      subst e
      refine .inl ⟨by rw [hlen] at j2; exact j2, ?_⟩
      rw [List.take_length] at pX
      refine q _ (.ref X) (T.freeze X _ eX) ⟨xs, es, hxs, rfl, pX⟩ (Lt.trans l ⟨fun b o hb => ?_, lU.2.1, fun b o hb => ?_⟩ tU.has) ?_ (Da.lst upd_same (DaAll.up (T.freeze_g eX gX) dX))
      · show upd T.G X _ b = some o
        have nb : b ≠ X := fun z => by
          have := U.sub b o hb
          rw [z, hX] at this; cases this
        rw [upd_ne nb]
        exact lU.1 b o hb
      · show upd T.G X _ b = U.G b
        have nb : b ≠ X := fun z => by rw [z, hX] at hb; cases hb
        rw [upd_ne nb]
        exact lU.2.2 b o hb
      · obtain ⟨tg, n, hn, et⟩ := tT
        refine ⟨?_, n, by omega, et⟩
        show upd T.G X _ t = none
        rw [upd_ne nt]
        exact tg
end
end MW

set_option Elab.async false
set_option linter.all false
set_option maxRecDepth 100000
set_option maxHeartbeats 2000000
namespace MW
open PySem PySem.Spec PyProof.Rows L2
open PySem.W (EachIs AllAlike Sortable dataLe)
/-! ### marks in order -/
def mle (a b : Mk) : Bool := decide (a.1 < b.1 ∨ (a.1 = b.1 ∧ (a.2.1 < b.2.1 ∨ (a.2.1 = b.2.1 ∧ a.2.2 ≤ b.2.2))))
theorem le_M (a b : Mk) : dataLe false eM a b = mle a b := by
  show (!PySem.W.dataLt (.tuple ([b.1, b.2.1, b.2.2].map .int)) (.tuple ([a.1, a.2.1, a.2.2].map .int))) = mle a b
  rw [PySem.W.dataLt_tuple]
  show (!PySem.W.rowLt ([b.1, b.2.1, b.2.2].map .int) ([a.1, a.2.1, a.2.2].map .int)) = mle a b
  rw [PySem.W.dataLt_ints]
  have e : ([b.1, b.2.1, b.2.2] < [a.1, a.2.1, a.2.2]) ↔ (b.1 < a.1 ∨ (b.1 = a.1 ∧ (b.2.1 < a.2.1 ∨ (b.2.1 = a.2.1 ∧ b.2.2 < a.2.2)))) := by
    simp [List.cons_lt_cons_iff]
  unfold mle
  by_cases h : [b.1, b.2.1, b.2.2] < [a.1, a.2.1, a.2.2]
  · have h2 := e.mp h
    rw [decide_eq_true h, decide_eq_false (by omega)]
    rfl
  · have h2 : ¬ (b.1 < a.1 ∨ (b.1 = a.1 ∧ (b.2.1 < a.2.1 ∨ (b.2.1 = a.2.1 ∧ b.2.2 < a.2.2)))) := fun z => h (e.mpr z)
    rw [decide_eq_false h, decide_eq_true (by omega)]
    rfl
def sortM (l : List Mk) : List Mk := l.mergeSort mle
theorem srt_M (l : List Mk) : srt (l.map eM) = (sortM l).map eM := by
  rw [srt_map]
  congr 1
  unfold sortM
  congr 1
  funext a b
  exact le_M a b
theorem mle_trans (a b c : Mk) (h1 : mle a b = true) (h2 : mle b c = true) : mle a c = true := by
  simp only [mle, decide_eq_true_eq] at h1 h2 ⊢
  omega
theorem mle_total (a b : Mk) : (mle a b || mle b a) = true := by
  simp only [mle, Bool.or_eq_true, decide_eq_true_eq]
  omega
theorem mle_anti {a b : Mk} (h1 : mle a b = true) (h2 : mle b a = true) : a = b := by
  simp only [mle, decide_eq_true_eq] at h1 h2
  obtain ⟨a1, a2, a3⟩ := a
  obtain ⟨b1, b2, b3⟩ := b
  simp only [Prod.mk.injEq] at *
  omega
theorem sortM_perm (l : List Mk) : (sortM l).Perm l := List.mergeSort_perm l _
theorem sortM_le (l : List Mk) : (sortM l).Pairwise (fun a b => mle a b = true) := List.pairwise_mergeSort mle_trans mle_total l
theorem sortM_rise {l : List Mk} (h : (l.map plOf).Nodup) : ((sortM l).map plOf).Pairwise plt := by
  have nd : ((sortM l).map plOf).Nodup := ((sortM_perm l).map plOf).nodup_iff.mpr h
  have z := (sortM_le l).and (List.pairwise_map.mp nd)
  refine List.pairwise_map.mpr (z.imp fun {a b} ⟨h1, h2⟩ => ?_)
  simp only [mle, decide_eq_true_eq] at h1
  have ne : ¬ (a.1 = b.1 ∧ a.2.1 = b.2.1) := fun ⟨x, y⟩ => h2 (Prod.ext x y)
  unfold plt plOf
  simp only
  omega
/-- lists in order with the same things are one -/
theorem sorted_uniq : ∀ {l m : List Mk}, l.Pairwise (fun a b => mle a b = true) → m.Pairwise (fun a b => mle a b = true) → l.Perm m → l = m := fun h1 h2 p =>
  List.Perm.eq_of_pairwise (fun a b _ _ => mle_anti) h1 h2 p
theorem sortM_uniq {l m : List Mk} (h : l.Perm m) : sortM l = sortM m := sorted_uniq (sortM_le l) (sortM_le m) (((sortM_perm l).trans h).trans (sortM_perm m).symm)
/-- marks that rise are in order -/
theorem rise_sorted {l : List Mk} (h : (l.map plOf).Pairwise plt) : sortM l = l := by
  refine sorted_uniq (sortM_le l) ((List.pairwise_map.mp h).imp fun {a b} z => ?_) (sortM_perm l)
  unfold plt plOf at z
  simp only at z
  simp only [mle, decide_eq_true_eq]
  omega
section
variable {K : PySem.W.Frag} {σ : L2.St} {S : Sit} {ta : TE}
theorem alike_M (l : List Mk) : AllAlike (l.map eM) := AllAlike.of fun a b => rfl
/-- sorted(marks) -/
theorem ev_sortM {l : List Mk} (ha : EvD K ta σ S (.list (l.map eM))) : EvD K (tCB (rSortD K) (tCons ta tNil)) σ S (.list ((sortM l).map eM)) := by
  refine ev_is (ev_sortD ha (alike_M l) (Sortable.tuples fun m => ⟨_, _, rfl⟩) fun d hd => ?_) (by rw [srt_M])
  obtain ⟨m, _, rfl⟩ := List.mem_map.mp hd
  simp [eM, PyData.depth, PyData.depthAll]
end
/-! ### dicts, plainly -/
section
variable {γ : Type} [DV γ]
def Nk (D : Dd γ) : Prop := (D.map (·.1)).Nodup
theorem dput_keys (D : Dd γ) (p : Pl) (c : γ) : (dput D p c).map (·.1) = if p ∈ D.map (·.1) then D.map (·.1) else D.map (·.1) ++ [p] := by
  unfold dput
  have e : (D.any fun q => decide (q.1 = p)) = true ↔ p ∈ D.map (·.1) := by
    simp only [List.any_eq_true, decide_eq_true_eq, List.mem_map]
  by_cases h : p ∈ D.map (·.1)
  · rw [if_pos (e.mpr h), if_pos h, List.map_map]
    refine List.map_congr_left fun q _ => ?_
    show (if q.1 = p then (q.1, c) else q).1 = q.1
    split <;> rfl
  · rw [if_neg (fun z => h (e.mp z)), if_neg h]
    simp
theorem Nk.put {D : Dd γ} (h : Nk D) (p : Pl) (c : γ) : Nk (dput D p c) := by
  unfold Nk
  rw [dput_keys]
  split
  · exact h
  · rename_i n
    exact List.nodup_append.mpr ⟨h, by simp, fun a ha b hb e => by simp at hb; subst hb; exact n (e ▸ ha)⟩
theorem dput_all {P : Pl × γ → Prop} {D : Dd γ} (h : ∀ q ∈ D, P q) {p : Pl} {c : γ} (hp : P (p, c)) : ∀ q ∈ dput D p c, P q := by
  intro q hq
  unfold dput at hq
  split at hq
  · obtain ⟨z, hz, rfl⟩ := List.mem_map.mp hq
    split
    · rename_i e
      rw [e]; exact hp
    · exact h z hz
  · rcases List.mem_append.mp hq with z | z
    · exact h q z
    · simp at z; rw [z]; exact hp
theorem dget_mem {D : Dd γ} {p : Pl} {c : γ} (h : dget D p = some c) : (p, c) ∈ D := by
  unfold dget at h
  obtain ⟨q, hq, rfl⟩ := Option.map_eq_some_iff.mp h
  have e := List.find?_some hq
  simp at e
  rw [← e]
  exact List.mem_of_find?_eq_some hq
theorem dget_of {D : Dd γ} (hn : Nk D) {q : Pl × γ} (hq : q ∈ D) : dget D q.1 = some q.2 := by
  induction D with
  | nil => cases hq
  | cons r D ih =>
    unfold Nk at hn
    obtain ⟨h1, h2⟩ := List.nodup_cons.mp hn
    unfold dget
    rw [List.find?_cons]
    rcases List.mem_cons.mp hq with rfl | hq
    · simp
    · have ne : r.1 ≠ q.1 := fun e => h1 (List.mem_map.mpr ⟨q, hq, e.symm⟩)
      simp only [ne, decide_false]
      exact ih h2 hq
theorem dget_none {D : Dd γ} {p : Pl} : dget D p = none ↔ p ∉ D.map (·.1) := by
  unfold dget
  rw [Option.map_eq_none_iff, List.find?_eq_none]
  simp only [decide_eq_true_eq, List.mem_map, not_exists, not_and]
theorem dget_put {D : Dd γ} {p q : Pl} {c : γ} : dget (dput D p c) q = if q = p then some c else dget D q := by
  unfold dput
  by_cases h : (D.any fun r => decide (r.1 = p)) = true
  · rw [if_pos h]
    induction D with
    | nil => cases h
    | cons r D ih =>
      unfold dget at ih ⊢
      rw [List.map_cons, List.find?_cons, List.find?_cons]
      by_cases e : r.1 = p
      · by_cases e2 : q = p
        · rw [if_pos e2]
          simp [e, e2]
        · have e3 : ¬ p = q := fun z => e2 z.symm
          rw [if_neg e2]
          simp only [e, if_true, e3, decide_false]
          by_cases h2 : (D.any fun r => decide (r.1 = p)) = true
          · have z := ih h2
            rw [if_neg e2] at z
            exact z
          · have z : D.map (fun q => if q.1 = p then (q.1, c) else q) = D := by
              refine (List.map_congr_left fun s hs => ?_).trans (List.map_id D)
              have : ¬ s.1 = p := fun y => h2 (List.any_eq_true.mpr ⟨s, hs, by simp [y]⟩)
              rw [if_neg this]; rfl
            rw [z]
      · simp only [e, if_false]
        have h2 : (D.any fun r => decide (r.1 = p)) = true := by simpa [e] using h
        by_cases e2 : r.1 = q
        · have e3 : ¬ q = p := fun z => e (e2.trans z)
          simp [e2, e3]
        · simp only [e2, decide_false]
          exact ih h2
  · rw [if_neg h]
    unfold dget
    rw [List.find?_append]
    by_cases e : q = p
    · subst e
      rw [if_pos rfl]
      have z : D.find? (fun r => decide (r.1 = q)) = none := by
        rw [List.find?_eq_none]
        intro r hr he
        exact h (List.any_eq_true.mpr ⟨r, hr, he⟩)
      rw [z]
      simp
    · have e2 : ¬ p = q := fun z => e z.symm
      rw [if_neg e]
      cases D.find? (fun r => decide (r.1 = q)) with
      | some r => rfl
      | none => simp [e2]
end
/-- the marks of a dict -/
def mkOf (q : Pl × Int) : Mk := (q.1.1, q.1.2, q.2)
theorem mkOf_places (D : Dd Int) : (D.map mkOf).map plOf = D.map (·.1) := by
  rw [List.map_map]
  rfl
theorem floorOk_of {n : Nat} {fl : List Mk} (h1 : fl.length ≤ 200) (h2 : ∀ m ∈ fl, markOk n m = true) (h3 : (fl.map plOf).Pairwise plt) : floorOk n fl = true := by
  unfold floorOk
  rw [decide_eq_true h1, List.all_eq_true.mpr h2, decide_eq_true (sd_id h3)]
  rfl
theorem floorOk_at {n : Nat} {fl : List Mk} (h : floorOk n fl = true) : fl.length ≤ 200 ∧ (∀ m ∈ fl, markOk n m = true) ∧ (fl.map plOf).Pairwise plt := by
  unfold floorOk at h
  simp only [Bool.and_eq_true, decide_eq_true_eq] at h
  exact ⟨h.1, List.all_eq_true.mp h.2.1, sd_rise h.2.2⟩
end MW

set_option Elab.async false
set_option linter.all false
set_option maxRecDepth 100000
set_option maxHeartbeats 2000000
namespace MW
open PySem PySem.Spec PyProof.Rows L2
theorem Lt.transP {t p : Addr} {S T U : Sit} (a : Lt t S T) (b : Lm [t, p] T U) (hp : S.H p = none) (ht : ∃ o, T.H t = some o) : Lt t S U := by
  refine ⟨a.1.trans b.1, fun x o hx h => ?_, fun x o h => ?_⟩
  · have np : x ≠ p := fun z => by rw [z, hp] at h; cases h
    exact b.2.1 x o (by simp at hx; simp [hx, np]) (a.2.1 x o hx h)
  · by_cases e : x = t
    · subst e
      obtain ⟨o', h'⟩ := ht
      exact (b.2.2 x o' h').trans (a.2.2 x o h)
    · exact (b.2.2 x o (a.2.1 x o (by simp [e]) h)).trans (a.2.2 x o h)
/-- what comes anew was not there -/
theorem Lt.new {t p : Addr} {S T : Sit} (a : Lt t S T) (hp : ∀ q o, T.H q = some o → q ≠ p) (ht : ∃ o, T.H t = some o) : S.H p = none := by
  cases e : S.H p with
  | none => rfl
  | some o =>
    by_cases z : p = t
    · obtain ⟨o', h'⟩ := ht
      exact absurd z.symm (hp t o' h')
    · exact absurd rfl (hp p o (a.2.1 p o (by simp [z]) e))
section
variable {K : PySem.W.Frag} {t : Addr} {σ : L2.St} {S : Sit} {b b1 : Nat}
/-- a loop, drawn how long -/
theorem st_forN {wi : TI} {g : TG} {tb : TS} {D : Ends} {Φ : List PyData → Prop} (ht : Town S t b) (hi : EvIN K t wi σ S b b1 Φ) (I : List PyData → Nat → L2.St → Sit → Prop) (h0 : ∀ ds U, Φ ds → Lt t S U → Town U t b1 → I ds 0 σ U)
    (hs : ∀ ds n d σ' T v, Φ ds → ds[n]? = some d → I ds n σ' T → Da K T.G v d →
      g v σ' T.H fun σ2 H2 => tb { D with nx := fun σ3 H3 => ∃ T', T'.H = H3 ∧ Same T.G T'.G ∧ I ds (n + 1) σ3 T', ct := fun σ3 H3 => ∃ T', T'.H = H3 ∧ Same T.G T'.G ∧ I ds (n + 1) σ3 T', bk := D.nx } σ2 H2)
    (hd : ∀ ds σ' T, Φ ds → I ds ds.length σ' T → D.nx σ' T.H) : tFor wi g tb D σ S.H :=
  hi S (Lt.refl S) ht _ fun ds J U hds l tU hJ => by
    refine ⟨fun i m σ' H => m = ds.length - i ∧ i ≤ ds.length ∧ ∃ T : Sit, T.H = H ∧ Same U.G T.G ∧ I ds i σ' T, ⟨ds.length, by simp, Nat.zero_le _, U, rfl, Same.refl _, h0 ds U hds l tU⟩, ?_⟩
    rintro i m σ' H ⟨rfl, hle, T, rfl, hG, hI⟩
    obtain ⟨j1, j2, j3⟩ := hJ T hG
    by_cases hlt : i < ds.length
    · refine .inr ⟨j1 i hlt, fun σ3 H3 => ∃ T', T'.H = H3 ∧ Same T.G T'.G ∧ I ds (i + 1) σ3 T', fun σ3 H3 hN => ?_, fun x H' hy => ?_⟩
      · obtain ⟨T', e, g1, g2⟩ := hN
        exact ⟨ds.length - (i + 1), by omega, rfl, hlt, T', e, hG.trans g1, g2⟩
      · obtain ⟨e, hx⟩ := j3 i _ x H' (List.getElem?_eq_getElem hlt) hy
        subst e
        exact hs ds i _ σ' T x hds (List.getElem?_eq_getElem hlt) hI hx
    · have e : i = ds.length := by omega
      subst e
      exact .inl ⟨j2, hd ds σ' T hds hI⟩
theorem ein_imp {wi : TI} {b2 : Nat} {Φ Ψ : List PyData → Prop} (h : EvIN K t wi σ S b b1 Φ) (hb : b2 ≤ b1) (k : ∀ ds, Φ ds → Ψ ds) : EvIN K t wi σ S b b2 Ψ := fun T l ht R q => h T l ht R fun ds J U hd lU tU hJ => q ds J U (k ds hd) lU (tU.less hb) hJ
theorem en_at {δ : List Sl} {te : TE} {d : PyData} (hE : Sv K S.G σ δ) (h : ∀ T : Sit, Sv K T.G σ δ → EvD K te σ T d) : EvN K t te σ S b b (fun x => x = d) := en_pure fun T g => h T (hE.up g)
end
end MW

set_option Elab.async false
set_option linter.all false
set_option maxRecDepth 100000
set_option maxHeartbeats 2000000
namespace MW
open PySem PySem.Spec PyProof.Rows L2
/-- it comes to a new list, one's own -/
def EvF (K : PySem.W.Frag) (te : TE) (σ : L2.St) (S : Sit) (ds : List PyData) : Prop := ∀ T, Le S T → ∀ Q : VK, (∀ p U, Le T U → (∀ q o, T.H q = some o → q ≠ p) → Ow K U p ds → Q (.ref p) U.H) → te σ T.H Q
section
variable {K : PySem.W.Frag} {t p : Addr} {σ : L2.St} {S : Sit} {δ : List Sl} {ta tb te : TE} {ds : List PyData} {b b1 : Nat}
theorem fresh_le {T U : Sit} (l : Le T U) {p : Addr} (hp : U.H p = none) : ∀ q o, T.H q = some o → q ≠ p := fun q o hq e => by
  rw [e] at hq
  rw [l.2.1 _ _ hq] at hp
  cases hp
theorem evf_sl {tl th : TO} {lo hi : Option Int} (ha : EvD K ta σ S (.list ds)) (h1 : EvO K tl σ S lo) (h2 : EvO K th σ S hi) : EvF K (L2.tSl (rSlL K) ta tl th) σ S (cutD ds lo hi) := fun T l Q q =>
  ha T l _ fun v U1 l1 o => h1 U1 (l.trans l1) _ fun U2 l2 => h2 U2 ((l.trans l1).trans l2) _ fun U3 l3 => by
    obtain ⟨a, xs, rfl, e1, e2⟩ := Da.lst_eq (Da.up (l2.trans l3).g o)
    have ll := (l1.trans l2).trans l3
    exact ⟨a, xs, rfl, SqL.of (U3.sub _ _ e1), fun p hp => q p (U3.pushM p (.lst _) hp) (ll.trans (U3.pushM_le hp)) (fresh_le ll hp) ⟨U3.gfree hp, _, upd_same, e2.cut lo hi⟩⟩
theorem evf_cat {xs ys : List PyData} (ha : EvD K ta σ S (.list xs)) (hb : EvD K tb σ S (.list ys)) (hl : xs.length + ys.length ≤ 1000000) : EvF K (tOp rCat ta tb) σ S (xs ++ ys) := fun T l Q q =>
  ha T l _ fun v U1 l1 o1 => hb U1 (l.trans l1) _ fun w U2 l2 o2 => by
    obtain ⟨a, us, rfl, e1, e2⟩ := Da.lst_eq (Da.up l2.g o1)
    obtain ⟨c, ws, rfl, e3, e4⟩ := Da.lst_eq o2
    have ll := l1.trans l2
    exact ⟨a, c, us, ws, rfl, rfl, U2.sub _ _ e1, U2.sub _ _ e3, sz (by rw [e2.length, e4.length]; exact hl), fun p hp => q p (U2.pushM p (.lst _) hp) (ll.trans (U2.pushM_le hp)) (fresh_le ll hp) ⟨U2.gfree hp, _, upd_same, e2.append e4⟩⟩
theorem evf_if {tt : TT} {c : Bool} (hc : EvB K tt σ S c) (h1 : c = true → EvF K ta σ S ds) (h2 : c = false → EvF K tb σ S ds) : EvF K (tIf tt ta tb) σ S ds := fun T l Q q =>
  hc T l _ fun U lU => by
    have q' : ∀ p V, Le U V → (∀ r o, U.H r = some o → r ≠ p) → Ow K V p ds → Q (.ref p) V.H := fun p V lV n o => q p V (lU.trans lV) (fun r x hr => n r x (lU.2.1 _ _ hr)) o
    cases c with
    | true => exact iteT (h1 rfl U (l.trans lU) Q q')
    | false => exact iteF (h2 rfl U (l.trans lU) Q q')
theorem evf_is {es : List PyData} (h : EvF K te σ S ds) (e : ds = es) : EvF K te σ S es := e ▸ h
theorem st_asgF {i : Nat} {D : Ends} (hE : Sv K S.G σ δ) (he : EvF K te σ S ds) (k : ∀ p σ' T, Le S T → (∀ q o, S.H q = some o → q ≠ p) → Ow K T p ds → Sv K T.G σ' (δ.set i (.v (.ref p))) → D.nx σ' T.H) : tAsg te (gName i) D σ S.H :=
  he S (Le.refl S) _ fun p U l n o => k p _ U l n o (Sv.set (slOk_v (K := K) (G := U.G) (.ref p)) i (hE.up l.g))
/-! ### a list of one's own is read -/
theorem Ow.seq (h : Ow K S p ds) : ∃ xs, SqL K S.H p xs ∧ DaAll K S.G xs ds := let ⟨_, xs, e, d⟩ := h; ⟨xs, SqL.of e, d⟩
theorem ev_lenO (ha : Ev K ta σ S (.v (.ref p))) (h : Ow K S p ds) : EvD K (tCB (rLen K) (tCons ta tNil)) σ S (.int (ds.length : Nat)) :=
  ev_cb1 ha fun T x l hx Q q => by
    cases (show some x = some (V.ref p) from hx)
    obtain ⟨xs, e, d⟩ := (h.up l).seq
    refine ⟨_, xs.length, rfl, .inl ⟨xs, e, rfl⟩, ?_⟩
    rw [d.length]
    exact q _ T (Le.refl T) (Da.int _)
theorem ev_ixO {i : Int} {d : PyData} (ha : Ev K ta σ S (.v (.ref p))) (hb : EvD K tb σ S (.int i)) (h : Ow K S p ds) (e : L2.atI ds i = some d) : EvD K (tOp (rIxL K) ta tb) σ S d :=
  ev_two ha hb fun T x y l hx hy Q q => by
    cases (show some x = some (V.ref p) from hx)
    have ey := Da.int_eq hy
    subst ey
    obtain ⟨xs, e1, e2⟩ := (h.up l).seq
    obtain ⟨v, e3, e4⟩ := e2.atI e
    exact ⟨p, xs, i, v, rfl, rfl, e1, e3, q v T (Le.refl T) e4⟩
theorem ev_slO {tl th : TO} {lo hi : Option Int} (ha : Ev K ta σ S (.v (.ref p))) (h : Ow K S p ds) (h1 : EvO K tl σ S lo) (h2 : EvO K th σ S hi) : EvD K (L2.tSl (rSlL K) ta tl th) σ S (.list (cutD ds lo hi)) := fun T l Q q =>
  ha T l _ fun v U1 l1 o => h1 U1 (l.trans l1) _ fun U2 l2 => h2 U2 ((l.trans l1).trans l2) _ fun U3 l3 => by
    cases (show some v = some (V.ref p) from o)
    obtain ⟨xs, e1, e2⟩ := (h.up (((l.trans l1).trans l2).trans l3)).seq
    exact ⟨p, xs, rfl, e1, fun r hr => q (.ref r) (U3.push r _ hr) (((l1.trans l2).trans l3).trans (U3.push_le hr)) (Da.lst upd_same (DaAll.up (U3.push_le hr).g (e2.cut lo hi)))⟩
/-- x[i] = v, a list of one's own -/
theorem Ow.set {d : PyData} {v : V} (h : Ow K S p ds) (o : Da K S.G v d) (j : Nat) : ∃ xs, S.H p = some (.lst xs) ∧ xs.length = ds.length ∧ ∃ T : Sit, T.H = upd S.H p (.lst (xs.set j v)) ∧ Lm [p] S T ∧ Ow K T p (ds.set j d) := by
  obtain ⟨g, xs, e, q⟩ := h
  refine ⟨xs, e, q.length, S.mut p (.lst (xs.set j v)) g, rfl, ⟨Same.refl _, fun x u hx h => ?_, fun _ _ _ => rfl⟩, g, _, upd_same, ?_⟩
  · show upd S.H p _ x = some u
    rw [upd_ne (fun z => hx (by simp [z]))]
    exact h
  · have key : ∀ {xs : List V} {ds : List PyData} (j : Nat), DaAll K S.G xs ds → DaAll K S.G (xs.set j v) (ds.set j d) := by
      intro xs
      induction xs with
      | nil => intro ds j h; cases h; exact .nil
      | cons x xs ih =>
        intro ds j h
        cases h with
        | cons a t =>
          cases j with
          | zero => exact .cons o t
          | succ j => exact .cons a (ih j t)
    exact key j q
/-! ### draws with a list at hand -/
theorem en_pureL {d : PyData} (h : ∀ T, Lt t S T → EvD K te σ T d) : EvN K t te σ S b b (fun x => x = d) := fun T l ht Q q =>
  h T l T (Le.refl T) Q fun v U lU o => q d v U rfl (lU.lm _) (ht.up lU) o
theorem en_drawL {E : XK} {tr : TA} {a : Addr} {ns : List Int} {many : Int} (ha : ∀ T, Lt t S T → EvA K tr σ T [.v (.ref a), .v (.ref t), .d (.int many)]) (hs : SqL K S.G a (ns.map V.int)) (hm : 0 < many) :
    EvN K t (tCall (sp__law_draw K) [] E tr) σ S (b + 1) b (fun d => ∃ i, d = .int i ∧ 0 ≤ i ∧ i < many) := fun T l ht Q q =>
  ha T l T (Le.refl T) _ fun vs U lU o => by
    rw [List.append_nil]
    exact ⟨U, a, t, ns, many, b, rfl, o, (l.g.trans lU.g).seq hs, ht.up lU, hm, fun i W h0 h1 lW tW => q (.int i) _ W ⟨i, rfl, h0, h1⟩ (Lt.trans (lU.lm _) lW (ht.up lU).has) tW (Da.int i)⟩
/-- .. two arguments, of which things are known where they are asked -/
theorem en_bL {Φ Ψ Χ : PyData → Prop} {b2 : Nat} (F : TE → TE → TE) (hF : ∀ ta tb σ H Q, F ta tb σ H Q = ta σ H fun x H1 => tb σ H1 fun y H2 => F (tC x) (tC y) σ H2 Q) (ha : EvN K t ta σ S b b1 Φ) (hb : EvN K t tb σ S b1 b2 Ψ) (hr : ∀ d e, Φ d → Ψ e → ∃ c, Χ c ∧ ∀ x y T, Lt t S T → EvD K (tC x) σ T d → EvD K (tC y) σ T e → EvD K (F (tC x) (tC y)) σ T c) : EvN K t (F ta tb) σ S b b2 Χ := fun T l ht Q q => by
  rw [hF]
  refine ha T l ht _ fun d v U hd lU tU o => hb U (Lt.trans l lU ht.has) tU _ fun e v2 V he lV tV o2 => ?_
  obtain ⟨c, hc, h⟩ := hr d e hd he
  exact en_ev (h v v2 V (Lt.trans (Lt.trans l lU ht.has) lV tU.has) (ev_c (Da.up lV.g o)) (ev_c o2)) fun w W lW oW => q c w W hc (Lt.trans (Lt.trans lU lV tU.has) (lW.lm _) tV.has) (tV.up lW) oW
end
/-! ### floors that are none -/
theorem floor_bad {n : Nat} {fl : List Mk} {m : Mk} (hm : m ∈ fl) (h : markOk n m = false) : floorOk n fl = false := by
  cases e : floorOk n fl with
  | false => rfl
  | true => rw [(floorOk_at e).2.1 m hm] at h; cases h
theorem floor_same {n : Nat} {A B : List Mk} {a a' : Mk} (h : plOf a = plOf a') : floorOk n (A ++ [a, a'] ++ B) = false := by
  cases e : floorOk n (A ++ [a, a'] ++ B) with
  | false => rfl
  | true =>
    have z := (floorOk_at e).2.2
    rw [List.map_append, List.map_append] at z
    have y := (List.pairwise_append.mp (List.pairwise_append.mp z).1).2.1
    have w := (List.pairwise_cons.mp y).1 (plOf a') (by simp)
    have w : plt (plOf a) (plOf a') := w
    rw [h] at w
    exact absurd w (plt_irr _)
theorem floor_swap {n : Nat} {fl : List Mk} (hr : (fl.map plOf).Pairwise plt) {i j : Nat} (hi : i < fl.length) (hj : j < fl.length) (ne : j ≠ i) : floorOk n ((fl.set i fl[j]).set j fl[i]) = false := by
  cases e : floorOk n ((fl.set i fl[j]).set j fl[i]) with
  | false => rfl
  | true =>
    have z := (floorOk_at e).2.2
    have get : ∀ (l : List Mk), (l.map plOf).Pairwise plt → ∀ {a b : Nat} (ha : a < l.length) (hb : b < l.length), a < b → plt (plOf l[a]) (plOf l[b]) := fun l hl a b ha hb hab => by
      have q := List.pairwise_iff_getElem.mp (List.pairwise_map.mp hl) a b ha hb hab
      exact q
    have li : i < ((fl.set i fl[j]).set j fl[i]).length := by simpa using hi
    have lj : j < ((fl.set i fl[j]).set j fl[i]).length := by simpa using hj
    have ei : ((fl.set i fl[j]).set j fl[i])[i] = fl[j] := by
      rw [List.getElem_set_ne ne]
      exact List.getElem_set_self _
    have ej : ((fl.set i fl[j]).set j fl[i])[j] = fl[i] := List.getElem_set_self _
    rcases Nat.lt_or_gt_of_ne ne with c | c
    · have q := get _ z lj li c
      rw [ei, ej] at q
      exact absurd q (plt_asymm (get fl hr hj hi c))
    · have q := get _ z li lj c
      rw [ei, ej] at q
      exact absurd q (plt_asymm (get fl hr hi hj c))
end MW

set_option Elab.async false
set_option linter.all false
set_option maxRecDepth 100000
set_option maxHeartbeats 2000000
namespace MW
open PySem PySem.Spec PyProof.Rows L2
theorem cut_to {xs : List PyData} {k : Int} (hk : 0 ≤ k) : cutD xs none (some k) = xs.take k.toNat := by
  unfold cutD HT.sIx
  simp only [List.drop_zero, Nat.sub_zero]
  rw [if_neg (by omega)]
  by_cases h : k.toNat ≤ xs.length
  · rw [Nat.min_eq_left h]
  · rw [Nat.min_eq_right (by omega), List.take_length, List.take_of_length_le (by omega)]
theorem cut_from {xs : List PyData} {k : Int} (hk : 0 ≤ k) : cutD xs (some k) none = xs.drop k.toNat := by
  unfold cutD HT.sIx
  simp only
  rw [if_neg (by omega)]
  by_cases h : k.toNat ≤ xs.length
  · rw [Nat.min_eq_left h, List.take_of_length_le (by simp)]
  · rw [Nat.min_eq_right (by omega), List.drop_of_length_le (Nat.le_refl _), List.drop_of_length_le (by omega)]
    simp
theorem atI_nat {α : Type} {xs : List α} {i : Int} (h0 : 0 ≤ i) (h1 : i.toNat < xs.length) : L2.atI xs i = some xs[i.toNat] := by
  unfold L2.atI ixN
  rw [if_pos h0, if_pos (by omega)]
  exact List.getElem?_eq_getElem h1
section
variable {K : PySem.W.Frag} {t : Addr} {σ : L2.St} {S : Sit} {te : TE} {b b1 : Nat}
/-- x or a draw: the second is asked where the first is not so -/
theorem st_ifOrN {tt : TT} {c : Bool} {t1 t2 : TS} {D : Ends} (hc : EvB K tt σ S c) (ht : Town S t b) (hb : b1 ≤ b) (he : ∀ T, Lt t S T → EvN K t te σ T b b1 (fun d => ∃ c, d = .bool c)) (h1 : ∀ T, Lt t S T → Town T t b1 → t1 D σ T.H) (h2 : c = false → ∀ T, Lt t S T → Town T t b1 → t2 D σ T.H) : tIfS (tOr tt (tTest te)) t1 t2 D σ S.H :=
  hc S (Le.refl S) _ fun U lU => by
    cases c with
    | true => exact iteT (iteT (h1 U (lU.lm _) ((ht.up lU).less hb)))
    | false =>
      refine iteF ?_
      refine he U (lU.lm _) U (Lt.refl U) (ht.up lU) _ fun d v V hd lV tV o => ?_
      obtain ⟨c, rfl⟩ := hd
      have ev := Da.bl_eq o
      subst ev
      have lSV : Lt t S V := Lt.trans (lU.lm _) lV (ht.up lU).has
      refine ⟨c, rfl, ?_⟩
      cases c with
      | true => exact iteT (h1 V lSV tV)
      | false => exact iteF (h2 rfl V lSV tV)
end
end MW

set_option Elab.async false
set_option linter.all false
set_option maxRecDepth 100000
set_option maxHeartbeats 2000000
namespace MW
open PySem PySem.Spec PyProof.Rows L2
section
variable {X : Cx} {K : PySem.W.Frag}
theorem kr_catA (hK : X.K = K := by rfl) : OpR X (binaryOp .Add) (rCatA K) := hK ▸ op_catA
theorem ks_tupA (hK : X.K = K := by rfl) : SlR X (rSlA K) := hK ▸ sl_tupA
end
section
variable {K : PySem.W.Frag} {t : Addr} {σ : L2.St} {S : Sit} {δ : List Sl} {ta tb te : TE} {b b1 : Nat}
theorem ev_catA {xs ys : List PyData} (ha : EvD K ta σ S (.tuple xs)) (hb : EvD K tb σ S (.tuple ys)) (hl : xs.length + ys.length ≤ 1000000) : EvD K (tOp (rCatA K) ta tb) σ S (.tuple (xs ++ ys)) :=
  ev_two ha hb fun T x y _ hx hy Q q => by
    obtain ⟨a, us, rfl, h1, h2⟩ := Da.tup_eq hx
    obtain ⟨c, ws, rfl, h3, h4⟩ := Da.tup_eq hy
    refine ⟨a, c, us, ws, rfl, rfl, SqT.of (T.sub _ _ h1), SqT.of (T.sub _ _ h3), sz (by rw [h2.length, h4.length]; exact hl), fun e => ?_, fun _ e => ?_, fun _ _ p hp => ?_⟩
    · subst e
      cases h2
      exact q _ T (Le.refl T) (Da.tup h3 h4)
    · subst e
      cases h4
      rw [List.append_nil] at q
      exact q _ T (Le.refl T) (Da.tup h1 h2)
    · exact q (.ref p) (T.push p _ hp) (T.push_le hp) (Da.tup upd_same (DaAll.up (T.push_le hp).g (h2.append h4)))
theorem cut_whole {ds : List PyData} {lo hi : Option Int} (h : HT.sIx ds.length 0 lo = 0 ∧ HT.sIx ds.length ds.length hi = ds.length) : cutD ds lo hi = ds := by
  unfold cutD
  rw [h.1, h.2]
  simp
theorem ev_slA {tl th : TO} {ds : List PyData} {lo hi : Option Int} (ha : EvD K ta σ S (.tuple ds)) (h1 : EvO K tl σ S lo) (h2 : EvO K th σ S hi) : EvD K (L2.tSl (rSlA K) ta tl th) σ S (.tuple (cutD ds lo hi)) := fun T l Q q =>
  ha T l _ fun v U1 l1 o => h1 U1 (l.trans l1) _ fun U2 l2 => h2 U2 ((l.trans l1).trans l2) _ fun U3 l3 => by
    obtain ⟨a, xs, rfl, e1, e2⟩ := Da.tup_eq (Da.up (l2.trans l3).g o)
    have ll := (l1.trans l2).trans l3
    refine ⟨a, xs, rfl, SqT.of (U3.sub _ _ e1), fun e => ?_, fun _ p hp => ?_⟩
    · rw [e2.length] at e
      rw [cut_whole e] at q
      exact q _ U3 ll (Da.tup e1 e2)
    · exact q (.ref p) (U3.push p _ hp) (ll.trans (U3.push_le hp)) (Da.tup upd_same (DaAll.up (U3.push_le hp).g (e2.cut lo hi)))
theorem ev_slS {tl th : TO} {z : Str} {lo hi : Option Int} (ha : EvD K ta σ S (.str z)) (h1 : EvO K tl σ S lo) (h2 : EvO K th σ S hi) (hl : z.length ≤ 1000000) : EvD K (L2.tSl rSlS ta tl th) σ S (.str (cutS z lo hi)) := fun T l Q q =>
  ha T l _ fun v U1 l1 o => h1 U1 (l.trans l1) _ fun U2 l2 => h2 U2 ((l.trans l1).trans l2) _ fun U3 l3 => by
    have ev := Da.str_eq o
    subst ev
    exact ⟨z, rfl, sz hl, q _ U3 ((l1.trans l2).trans l3) (Da.str _)⟩
theorem st_asgGN {g : TG} {D : Ends} {Φ : PyData → Prop} {is : PyData → List (Nat × PyData)} (hE : Sv K S.G σ δ) (ht : Town S t b) (he : EvN K t te σ S b b1 Φ) (hg : ∀ d, Φ d → Tg K g d (is d)) (k : ∀ d σ' T, Φ d → Lt t S T → Town T t b1 → Sv K T.G σ' (putD δ (is d)) → D.nx σ' T.H) : tAsg te g D σ S.H :=
  he S (Lt.refl S) ht _ fun d v U hd lU tU o => hg d hd v σ U _ o fun σ' h1 _ => k d σ' U hd lU tU (h1 _ (hE.up lU.g))
end
/-! ### texts -/
theorem str_len_app (x y : Str) : (x ++ y).length = x.length + y.length := by
  rw [TL.len_tl, TL.tl_append, List.length_append, ← TL.len_tl, ← TL.len_tl]
theorem cutS_to {z : Str} {k : Int} (hk : 0 ≤ k) : (cutS z none (some k)).cps.toList = z.cps.toList.take k.toNat := by
  unfold cutS HT.sIx
  have e : z.length = z.cps.toList.length := TL.len_tl z
  simp only [List.drop_zero, Nat.sub_zero]
  rw [if_neg (by omega), e]
  by_cases h : k.toNat ≤ z.cps.toList.length
  · rw [Nat.min_eq_left h]
  · rw [Nat.min_eq_right (by omega), List.take_length, List.take_of_length_le (by omega)]
end MW

set_option Elab.async false
set_option linter.all false
set_option maxRecDepth 100000
set_option maxHeartbeats 2000000
namespace MW
open PySem PySem.Spec PyProof.Rows L2
/-! ### the module's tables -/
def turnOf (c : Nat) : Int := if c = 82 then 1 else if c = 85 then 2 else if c = 76 then 3 else 0
def ahead (h : Int) : Pl := if h = 0 then (0, 1) else if h = 1 then (1, 0) else if h = 2 then (0, -1) else (-1, 0)
def tupIn (K : PySem.W.Frag) (a : Addr) : Option (List Value) := match K.lookup a with
  | some ⟨.type "tuple", _, .seq its _, _⟩ => some its.toList
  | _ => none
def isRef : Value → Option Addr
  | .ref a => some a
  | _ => none
def isInt : Int → Value → Bool
  | i, .int j _ => decide (i = j)
  | _, _ => false
def ints2 (K : PySem.W.Frag) (v : Value) (i j : Int) : Bool := match isRef v with
  | some a => (match tupIn K a with
    | some [u, v] => isInt i u && isInt j v
    | _ => false)
  | none => false
def aheadB (K : PySem.W.Frag) : Bool := match tupIn K (He.ga K "AHEAD") with
  | some [u0, u1, u2, u3] => ints2 K u0 0 1 && (ints2 K u1 1 0 && (ints2 K u2 0 (-1) && ints2 K u3 (-1) 0))
  | _ => false
def turnB (K : PySem.W.Frag) (x : Str) (i : Int) : Bool := match PySem.W.nsIn K (He.ga K "TURNS") x with
  | some (some v) => isInt i v
  | _ => false
def turnsB (K : PySem.W.Frag) : Bool := turnB K "N" 0 && (turnB K "R" 1 && (turnB K "U" 2 && turnB K "L" 3))
theorem tupIn_sq {K : PySem.W.Frag} {a : Addr} {us : List Value} {xs : List V} (h : tupIn K a = some us) (hv : Vals xs us) (hl : us.length ≤ 1000) (H : Hp) : SqT K H a xs := by
  unfold tupIn at h
  split at h
  · rename_i d its n sl e
    cases h
    exact .inr ⟨_, its, n, e, rfl, rfl, by rw [← Array.length_toList, sizeLine_eq]; omega, hv⟩
  · cases h
theorem isInt_rel {i : Int} {u : Value} (h : isInt i u = true) : RelV (.int i) u := by
  cases u with
  | int j t =>
    have e : i = j := of_decide_eq_true h
    subst e
    exact ⟨t, rfl⟩
  | _ => exact nomatch (show false = true from h)
theorem ints2_at {K : PySem.W.Frag} {v : Value} {i j : Int} (h : ints2 K v i j = true) : ∃ a, v = .ref a ∧ ∀ H, SqT K H a [.int i, .int j] := by
  unfold ints2 at h
  cases v with
  | ref a =>
    refine ⟨a, rfl, fun H => ?_⟩
    have h : (match tupIn K a with
      | some [u, v] => isInt i u && isInt j v
      | _ => false) = true := h
    split at h
    · rename_i u v e
      obtain ⟨h1, h2⟩ := He.ba h
      exact tupIn_sq e (.cons (isInt_rel h1) (.cons (isInt_rel h2) .nil)) (by show 2 ≤ _; decide) H
    · cases h
  | _ => exact nomatch (show false = true from h)
structure Ahd (K : PySem.W.Frag) (A : Addr) : Prop where
  ex : ∃ p0 p1 p2 p3 : Addr, (∀ H, SqT K H A [.ref p0, .ref p1, .ref p2, .ref p3]) ∧ (∀ H, SqT K H p0 [.int 0, .int 1]) ∧ (∀ H, SqT K H p1 [.int 1, .int 0]) ∧ (∀ H, SqT K H p2 [.int 0, .int (-1)]) ∧ ∀ H, SqT K H p3 [.int (-1), .int 0]
theorem ahd_of {K : PySem.W.Frag} (h : aheadB K = true) : Ahd K (He.ga K "AHEAD") := by
  unfold aheadB at h
  split at h
  · rename_i u0 u1 u2 u3 e
    obtain ⟨h0, h⟩ := He.ba h
    obtain ⟨h1, h⟩ := He.ba h
    obtain ⟨h2, h3⟩ := He.ba h
    obtain ⟨p0, rfl, q0⟩ := ints2_at h0
    obtain ⟨p1, rfl, q1⟩ := ints2_at h1
    obtain ⟨p2, rfl, q2⟩ := ints2_at h2
    obtain ⟨p3, rfl, q3⟩ := ints2_at h3
    exact ⟨p0, p1, p2, p3, fun H => tupIn_sq (xs := [.ref p0, .ref p1, .ref p2, .ref p3]) e (.cons rfl (.cons rfl (.cons rfl (.cons rfl .nil)))) (by show 4 ≤ _; decide) H, q0, q1, q2, q3⟩
  · cases h
theorem turnB_at {K : PySem.W.Frag} {x : Str} {i : Int} (h : turnB K x i = true) : ∃ u, PySem.W.nsIn K (He.ga K "TURNS") x = some (some u) ∧ RelV (.int i) u := by
  unfold turnB at h
  split at h
  · rename_i v e
    exact ⟨v, e, isInt_rel h⟩
  · cases h
theorem turns_of {K : PySem.W.Frag} {w : World} (h : turnsB K = true) (hd : ∃ es n, KDict K w (He.ga K "TURNS") es n) {c : Nat} (hc : c = 76 ∨ c = 78 ∨ c = 82 ∨ c = 85) : KDct K w (He.ga K "TURNS") ⟨#[c]⟩ (.int (turnOf c)) := by
  obtain ⟨es, n, D⟩ := hd
  obtain ⟨h0, h⟩ := He.ba h
  obtain ⟨h1, h⟩ := He.ba h
  obtain ⟨h2, h3⟩ := He.ba h
  rcases hc with rfl | rfl | rfl | rfl
  · obtain ⟨u, e, r⟩ := turnB_at h3
    exact ⟨es, n, u, D.at_, D.lit, e, r⟩
  · obtain ⟨u, e, r⟩ := turnB_at h0
    exact ⟨es, n, u, D.at_, D.lit, e, r⟩
  · obtain ⟨u, e, r⟩ := turnB_at h1
    exact ⟨es, n, u, D.at_, D.lit, e, r⟩
  · obtain ⟨u, e, r⟩ := turnB_at h2
    exact ⟨es, n, u, D.at_, D.lit, e, r⟩
/-- the tables, as the top left them -/
structure Ty (K : PySem.W.Frag) (mg : Str → Option Value) (w : World) : Prop where
  AHEAD : mg "AHEAD" = some (.ref (He.ga K "AHEAD"))
  TURNS : mg "TURNS" = some (.ref (He.ga K "TURNS"))
  ah : Ahd K (He.ga K "AHEAD")
  tu : ∀ c : Nat, c = 76 ∨ c = 78 ∨ c = 82 ∨ c = 85 → KDct K w (He.ga K "TURNS") ⟨#[c]⟩ (.int (turnOf c))
theorem kx_kdict {X : Cx} {K : PySem.W.Frag} {w : World} (hK : X.K = K := by rfl) (hw : X.w = w := by rfl) : IxR X (rIxD K w) := hK ▸ hw ▸ ix_kdict
section
variable {K : PySem.W.Frag} {w : World} {σ : L2.St} {S : Sit} {ta tb : TE}
theorem ev_turn {A : Addr} {c : Nat} (hb : EvD K tb σ S (.str ⟨#[c]⟩)) (h : KDct K w A ⟨#[c]⟩ (.int (turnOf c))) : EvD K (tOp (rIxD K w) (tC (.ref A)) tb) σ S (.int (turnOf c)) := fun T l Q q =>
  hb T l _ fun y U lU o => by
    have e := Da.str_eq o
    subst e
    exact ⟨A, _, _, rfl, rfl, h, q _ U lU (Da.int _)⟩
/-- AHEAD[h][i] -/
theorem ev_ahead {A : Addr} {h i : Int} {z : Int} (hA : Ahd K A) (hb : EvD K ta σ S (.int h)) (hi : EvD K tb σ S (.int i)) (h0 : 0 ≤ h) (h4 : h < 4) (hz : (i = 0 ∧ z = (ahead h).1) ∨ (i = 1 ∧ z = (ahead h).2)) :
    EvD K (tOp (rIxT K) (tOp (rIxT K) (tC (.ref A)) ta) tb) σ S (.int z) := fun T l Q q =>
  hb T l _ fun y U lU o => by
    have e := Da.int_eq o
    subst e
    obtain ⟨p0, p1, p2, p3, q4, q0, q1, q2, q3⟩ := hA.ex
    have fin : ∀ (p : Addr) (u v : Int), (∀ H, SqT K H p [.int u, .int v]) → ((i = 0 ∧ z = u) ∨ (i = 1 ∧ z = v)) → tb σ U.H (fun y H2 => rIxT K (.ref p) y H2 Q) := fun p u v hp hz =>
      hi U (l.trans lU) _ fun y W lW oW => by
        have e := Da.int_eq oW
        subst e
        refine ⟨p, _, i, .int z, rfl, rfl, hp _, ?_, q _ W (lU.trans lW) (Da.int _)⟩
        rcases hz with ⟨rfl, rfl⟩ | ⟨rfl, rfl⟩ <;> rfl
    have : h = 0 ∨ h = 1 ∨ h = 2 ∨ h = 3 := by omega
    rcases this with rfl | rfl | rfl | rfl
    · exact ⟨A, _, 0, .ref p0, rfl, rfl, q4 _, rfl, fin p0 0 1 q0 hz⟩
    · exact ⟨A, _, 1, .ref p1, rfl, rfl, q4 _, rfl, fin p1 1 0 q1 hz⟩
    · exact ⟨A, _, 2, .ref p2, rfl, rfl, q4 _, rfl, fin p2 0 (-1) q2 hz⟩
    · exact ⟨A, _, 3, .ref p3, rfl, rfl, q4 _, rfl, fin p3 (-1) 0 q3 hz⟩
end
/-! ### one step, plainly -/
abbrev Wk := Int × Int × Int
def at0 (D : Dd Int) (p : Pl) : Int := (dget D p).getD 0
def signAt (r : Str) (c : Int) : Nat := r.cps.toList.getD c.toNat 0
def goD (r : Str) (D : Dd Int) (w : Wk) : Dd Int := dput D (w.1, w.2.1) ((at0 D (w.1, w.2.1) + 1) % (r.length : Int))
def goH (r : Str) (D : Dd Int) (w : Wk) : Int := (w.2.2 + turnOf (signAt r (at0 D (w.1, w.2.1)))) % 4
def goW (r : Str) (D : Dd Int) (w : Wk) : Wk := (w.1 + (ahead (goH r D w)).1, w.2.1 + (ahead (goH r D w)).2, goH r D w)
def Cl (r : Str) (D : Dd Int) : Prop := ∀ q ∈ D, 0 ≤ q.2 ∧ q.2 < (r.length : Int)
theorem Cl.at {r : Str} {D : Dd Int} (h : Cl r D) (hr : 2 ≤ r.length) (p : Pl) : 0 ≤ at0 D p ∧ at0 D p < (r.length : Int) := by
  unfold at0
  cases e : dget D p with
  | none => exact ⟨Int.le_refl _, by show (0 : Int) < _; omega⟩
  | some c => exact h _ (dget_mem e)
theorem Cl.go {r : Str} {D : Dd Int} (h : Cl r D) (hr : 2 ≤ r.length) (w : Wk) : Cl r (goD r D w) := dput_all h ⟨Int.emod_nonneg _ (by omega), Int.emod_lt_of_pos _ (by omega)⟩
theorem sign_of {r : Str} (hr : ∀ c ∈ r.cps.toList, c = 76 ∨ c = 78 ∨ c = 82 ∨ c = 85) {c : Int} (h0 : 0 ≤ c) (h1 : c < (r.length : Int)) : L2.atI r.cps.toList c = some (signAt r c) ∧ (signAt r c = 76 ∨ signAt r c = 78 ∨ signAt r c = 82 ∨ signAt r c = 85) := by
  have e : r.length = r.cps.toList.length := TL.len_tl r
  have lt : c.toNat < r.cps.toList.length := by omega
  have g : signAt r c = r.cps.toList[c.toNat] := by
    unfold signAt
    rw [List.getD_eq_getElem?_getD, List.getElem?_eq_getElem lt]
    rfl
  exact ⟨by rw [atI_nat h0 lt, g], by rw [g]; exact hr _ (List.getElem_mem lt)⟩
end MW

set_option Elab.async false
set_option linter.all false
set_option maxRecDepth 100000
set_option maxHeartbeats 2000000
namespace MW
open PySem PySem.Spec PyProof.Rows L2
def turnKV : List (L2.Key × V) := [(.inr "L", .int 3), (.inr "R", .int 1), (.inr "N", .int 0), (.inr "U", .int 2)]
theorem turnKV_at {c : Nat} (h : c = 76 ∨ c = 78 ∨ c = 82 ∨ c = 85) : valV (mergeK [] turnKV) (.inr ⟨#[c]⟩) = some (.int (turnOf c)) := by
  rcases h with rfl | rfl | rfl | rfl <;> decide +kernel
section
variable {K : PySem.W.Frag} {σ : L2.St} {S : Sit} {ta tb : TE}
/-- {'L': 3, ..}[sign] -/
theorem ev_dispT {c : Nat} (hb : EvD K tb σ S (.str ⟨#[c]⟩)) (hc : c = 76 ∨ c = 78 ∨ c = 82 ∨ c = 85) :
    EvD K (tDGet (tDisp [(tC (.str "L"), tC (.int 3)), (tC (.str "R"), tC (.int 1)), (tC (.str "N"), tC (.int 0)), (tC (.str "U"), tC (.int 2))]) tb) σ S (.int (turnOf c)) := fun T l Q q p hp => by
  refine ⟨upd_same, turnKV, rfl, by decide, ?_⟩
  rw [upd_upd]
  refine hb (T.pushM p (.dK (mergeK [] turnKV)) hp) (l.trans (T.pushM_le hp)) _ fun y U lU o => ?_
  have e := Da.str_eq o
  subst e
  refine ⟨p, _, rfl, ?_, q (.int (turnOf c)) U ((T.pushM_le hp).trans lU) (Da.int _)⟩
  have z := DGet.k (k := .inr ⟨#[c]⟩) (lU.2.1 p _ upd_same)
  rw [turnKV_at hc] at z
  exact z
/-- [0, 1, 0, -1][h] -/
theorem ev_lx {h : Int} (hb : EvD K tb σ S (.int h)) (ha : EvD K ta σ S (.list [.int 0, .int 1, .int 0, .int (-1)])) (h0 : 0 ≤ h) (h4 : h < 4) : EvD K (tOp (rIxL K) ta tb) σ S (.int (ahead h).1) := by
  have : h = 0 ∨ h = 1 ∨ h = 2 ∨ h = 3 := by omega
  rcases this with rfl | rfl | rfl | rfl
  · exact ev_ixL ha hb rfl
  · exact ev_ixL ha hb rfl
  · exact ev_ixL ha hb rfl
  · exact ev_ixL ha hb rfl
theorem ev_ly {h : Int} (hb : EvD K tb σ S (.int h)) (ha : EvD K ta σ S (.list [.int 1, .int 0, .int (-1), .int 0])) (h0 : 0 ≤ h) (h4 : h < 4) : EvD K (tOp (rIxL K) ta tb) σ S (.int (ahead h).2) := by
  have : h = 0 ∨ h = 1 ∨ h = 2 ∨ h = 3 := by omega
  rcases this with rfl | rfl | rfl | rfl
  · exact ev_ixL ha hb rfl
  · exact ev_ixL ha hb rfl
  · exact ev_ixL ha hb rfl
  · exact ev_ixL ha hb rfl
theorem atI_last {α : Type} {xs : List α} {x : α} : L2.atI (xs ++ [x]) (-1) = some x := by
  unfold L2.atI ixN
  rw [if_neg (by decide)]
  simp only [List.length_append, List.length_cons, List.length_nil]
  rw [if_pos (by omega)]
  have e : ((-1 : Int) + ((xs.length + (0 + 1) : Nat) : Int)).toNat = xs.length := by omega
  rw [e]
  simp
end
theorem mod_step {c n : Int} (h0 : 0 ≤ c) (h1 : c < n) : (if c + 1 < n then c + 1 else 0) = (c + 1) % n := by
  by_cases h : c + 1 < n
  · rw [if_pos h, Int.emod_eq_of_lt (by omega) h]
  · rw [if_neg h]
    have e : c + 1 = n := by omega
    rw [e, Int.emod_self]
end MW

set_option Elab.async false
set_option linter.all false
set_option maxRecDepth 100000
set_option maxHeartbeats 2000000
namespace MW
open PySem PySem.Spec PyProof.Rows L2
/-! ### a test whose answer is not told -/
def EvU (K : PySem.W.Frag) (tt : TT) (σ : L2.St) (S : Sit) (φ : Bool → Prop) : Prop := ∀ T, Le S T → ∀ Q : Bool → Hp → Prop, (∀ b U, φ b → Le T U → Q b U.H) → tt σ T.H Q
section
variable {K : PySem.W.Frag} {σ : L2.St} {S : Sit} {t u : TT} {φ ψ : Bool → Prop} {D : Ends} {t1 t2 : TS}
theorem eu_of {b : Bool} (h : EvB K t σ S b) (hb : φ b) : EvU K t σ S φ := fun T a Q q => h T a _ fun U l => q b U hb l
theorem eu_and (h1 : EvU K t σ S φ) (h2 : φ true → EvU K u σ S ψ) (hf : φ false → ψ false) : EvU K (tAnd t u) σ S ψ := fun T a Q q => h1 T a _ fun b U hb l => by
  cases b with
  | true => exact iteT (h2 hb U (a.trans l) _ fun c W hc lW => q c W hc (l.trans lW))
  | false => exact iteF (q false U (hf hb) l)
theorem st_ifU (h : EvU K t σ S φ) (h1 : φ true → ∀ T, Le S T → t1 D σ T.H) (h2 : φ false → ∀ T, Le S T → t2 D σ T.H) : tIfS t t1 t2 D σ S.H :=
  h S (Le.refl S) _ fun b U hb l => by
    cases b with
    | true => exact iteT (h1 hb U l)
    | false => exact iteF (h2 hb U l)
end
end MW

set_option Elab.async false
set_option linter.all false
set_option maxRecDepth 100000
set_option maxHeartbeats 2000000
namespace MW
open PySem PySem.Spec PyProof.Rows L2
open PySem.W (EachIs AllAlike Sortable dataLe)
/-! ### d.keys() as a thing, and sorted of it -/
def keysO (p d : Addr) : HO := .ext fun h => PySem.W.KdlKeysView h p d
theorem keysO_ok {P : Program} {w : World} {H : Hp} {h : Heap} {p d : Addr} (e : h.get? p = some { cls := .type "dict_keys", data := .fields #[.ref d] }) : ObjOk P w H h p (keysO p d) :=
  ⟨⟨_, e, rfl, rfl⟩, ⟨_, e⟩, fun h1 h2 x k => let ⟨o, ho, r⟩ := x; ⟨o, k o ho, r⟩⟩
def rKeysV : V → List V → Hp → VK → Prop := fun x xs H Q => ∃ (a : Addr) (kvs : List (List L2.Key × V)), x = .ref a ∧ xs = [] ∧ H a = some (.dT kvs) ∧ ∀ p, H p = none → Q (.ref p) (upd H p (keysO p a))
theorem mt_keysV {X : Cx} : MtR X "dict.keys" rKeysV := by
  intro pins s σ H x xs v us Q I rx rxs h
  obtain ⟨a, kvs, rfl, rfl, ha, q⟩ := h
  cases rx
  cases rxs
  obtain ⟨z, hd, xs', rel, o, es, ep, ho, hx, hdat, _⟩ := dt_of I.hok ha
  have hT : s.TypeIs (.ref a) "dict" := ⟨o, ho, hx.1⟩
  have hf : H s.heap.objs.size = none := I.hok.fresh (Nat.le_refl _)
  exact call_meetsIn F.slot_dict_keys hT F.entry_dict_keys (F.args_dict_keys_1 _) (keys_meets a hd) ⟨hT, .ref s.heap.objs.size, upd H s.heap.objs.size (keysO s.heap.objs.size a), I.laid (t' := s.toks) (fun b u e => Heap.get?_push_of_some _ e) (Nat.le_refl _) (keysO_ok (Heap.get?_push_size _ rfl)), rfl, q _ hf⟩
theorem kdl_rawV {prog : Program} {w : World} {o : Obj} {es : Array DictEntry} {ep : Nat} {r d : Addr} (hd : o.data = .dict es ep) :
    PySem.W.KdlSrc prog w "dict_keys" r d es.size (fun i v => ∃ en : DictEntry, es[i]? = some en ∧ v = en.key) (fun h => PySem.W.KdlKeysView h r d ∧ h.get? d = some o) where
  type := fun _ hm => hm.1.typeIs
  there := fun _ hm => ⟨let ⟨_, ho, _⟩ := hm.1; Heap.lt_size ho, Heap.lt_size hm.2⟩
  keep := fun _ _ hm hk => ⟨let ⟨o, ho, x⟩ := hm.1; ⟨o, hk r (.inl rfl) o ho, x⟩, hk d (.inr rfl) _ hm.2⟩
  notList := by decide
  notTuple := by decide
  hint := fun _ _ s _ hm hq => PySem.W.kdl_hint_keys (s := s) hm.1.typeIs hq
  iter := fun _ s hh hm => ⟨_, _, (fun _ _ hq => keys_iter (s := s) hm.1 hm.2 hd hq), walks_raw hh _ d (Nat.ne_of_lt (Heap.lt_size hm.2)) hd, ⟨⟨_, Heap.get?_push_size _ rfl, rfl, rfl⟩, Heap.get?_push_of_some _ hm.2⟩⟩
theorem collectK {prog : Program} {w : World} {A : Around} {E : Value → Shared → Prop} {s : Shared} {T : String} {r d : Addr} {n : Nat} {P : Nat → Value → Prop} {OK : Heap → Prop} {R : List Value → Shared → Prop} (K : PySem.W.KdlSrc prog w T r d n P OK) (hh : A.handled = none) (hok : OK s.heap) (hn : n ≤ sizeLine)
    (h : ∀ (h' : Heap) (tk : Nat) (acc : Array Value), (∀ b o, s.heap.get? b = some o → h'.get? b = some o) → s.heap.objs.size < h'.objs.size → ItemsOf P acc n → R acc.toList { s with heap := h', toks := tk }) :
    wpAny (model prog w) A (collect (.ref r)) R E s := by
  have hlt := K.there _ hok
  unfold collect
  refine wpAny_bind (wpAny_runValue (codeAny_builtin entry_proto_collect' ?_))
  rw [Around.under_plainId PySem.F.plain_proto_collect _]
  show wpAny _ A.in1 (newList [] >>= fun l => again (.builtin "list.__iadd__" ⟨[l, .ref r], []⟩)) _ _ s
  refine wpAny_bind (wpAny_newObj_type ?_)
  refine wpAny_pure ⟨plainId_quiet PySem.F.plain_list_iadd _, codeAny_builtin entry_list_iadd' ?_⟩
  rw [Around.under_plainId PySem.F.plain_list_iadd _]
  have hS₁ : (s.heap.push { cls := .type "list", data := .seq ([] : List Value).toArray }).get? s.heap.objs.size = some { cls := .type "list", data := .seq #[] } := Heap.get?_push_size _ rfl
  show wpAny _ A.in1 (Builtin.List.listExtendWith (.ref s.heap.objs.size) (.ref r) (.ref s.heap.objs.size)) _ _ _
  have key := PySem.W.kdl_extend (prog := prog) (w := w) (A := A) (s := { s with heap := s.heap.push { cls := .type "list", data := .seq ([] : List Value).toArray } })
    (R := fun (q : Result) (s' : Shared) => ∃ (h' : Heap) (tk : Nat) (acc' : Array Value) (c' : Nat), q = .ok (.ret (.ref s.heap.objs.size)) ∧ s' = { s with heap := h', toks := tk } ∧
      (∀ b o, s.heap.get? b = some o → h'.get? b = some o) ∧ h'.get? s.heap.objs.size = some { cls := .type "list", dict := none, data := .seq acc' c', slots := #[] } ∧ ItemsOf P acc' n)
    K hh (K.keep _ _ hok fun b _ o e => Heap.get?_push_of_some _ e) s.heap.objs.size (Nat.ne_of_gt hlt.1) (Nat.ne_of_gt hlt.2) (.ref s.heap.objs.size) 0 hS₁
    (fun h' tk acc' c' hk hS' hacc => ⟨h', tk, acc', c', rfl, rfl, fun b o e => hk b o (Nat.ne_of_lt (Heap.lt_size e)) (Heap.get?_push_of_some _ e), hS', hacc⟩) hn
  refine wpAny_mono key (fun fin s' x => ?_) fun e s' x => ?_
  · cases fin with
    | done f =>
      obtain ⟨h', tk, acc', c', e, rfl, hk, hS', hacc⟩ := x
      cases e
      show wpAny _ A (load s.heap.objs.size >>= _) _ _ _
      refine wpAny_bind (wpAny_load hS' ?_)
      refine wpAny_pure ?_
      show R acc'.toList _
      exact h h' tk acc' hk (Heap.lt_size hS') hacc
    | again c₁ =>
      refine ⟨x.1, codeAny_mono x.2 fun q s₂ y => ?_⟩
      obtain ⟨h', tk, acc', c', rfl, rfl, hk, hS', hacc⟩ := y
      show wpAny _ A (load s.heap.objs.size >>= _) _ _ _
      refine wpAny_bind (wpAny_load hS' ?_)
      refine wpAny_pure ?_
      show R acc'.toList _
      exact h h' tk acc' hk (Heap.lt_size hS') hacc
  · obtain ⟨_, _, _, _, e', _⟩ := x
    cases e'
def rSortK (K : PySem.W.Frag) : List V → Hp → VK → Prop := fun vs H Q => ∃ (p a : Addr) (kvs : List (List L2.Key × V)) (ps : List Pl), vs = [.ref p] ∧ H p = some (keysO p a) ∧ H a = some (.dT kvs) ∧ kvs.map (·.1) = ps.map kP ∧ ps.length ≤ 100000 ∧
  ∀ (L : List (Addr × List Int)) (q : Addr), L.map (·.2) = ps.map (fun p => [p.1, p.2]) → (∀ z ∈ L, H z.1 = some (.tup (z.2.map V.int))) → H q = none → Q (.ref q) (upd H q (.lst ((L.mergeSort (dataLe false encT)).map fun q => V.ref q.1)))
theorem kp_map (p : Pl) : (kP p).map kV = [p.1, p.2].map V.int := rfl
theorem kr_sortK {X : Cx} {K : PySem.W.Frag} (hc : X.calm = true) (hu : X.A.units + 64 < cLine) (hK : X.K = K := by rfl) : CallR X (.builtin "sorted") (rSortK K) := by
  subst hK
  intro pins s σ H vs us Q I r h
  obtain ⟨pv, a, kvs, ps, rfl, hp, ha, hkv, hlen, q⟩ := h
  have view : PySem.W.KdlKeysView s.heap pv a := (show ObjOk X.prog X.w H s.heap pv (keysO pv a) from I.hok pv _ hp).1
  obtain ⟨z, hs, ks, pr, o, es, ep, ho, hx, hdt, he, hn⟩ := dt_of I.hok ha
  have l1 : es.size = ks.length := size_of_entries he
  have l2 : kvs.length = ks.length := Paired.length pr
  have l3 : kvs.length = ps.length := by have := congrArg List.length hkv; simpa using this
  rw [Vals.ref1 r]
  refine Calls.call_function_entry kind_sorted plain_sorted entry_sorted (args_sorted1 _) ?_
  unfold Builtin.«sorted»
  refine wpAny_bind (m := checkCount "sorted" 1 1 _) (wpAny_pure ?_)
  refine wpAny_bind (collectK (A := X.A.in1) (s := s) (kdl_rawV (r := pv) (d := a) hdt) (I.ok.hd hc) ⟨view, ho⟩ (by omega) fun h' tk acc kp hz it => ?_)
  -- the keys, as pairs of address and numbers
  have eb : acc.toList = (ks.map fun x => x.2.1).map Value.ref := by
    have hl : acc.toList.length = ks.length := by rw [Array.length_toList, it.1]; exact l1
    apply List.ext_getElem?
    intro j
    rw [List.getElem?_map, List.getElem?_map]
    cases hj : acc.toList[j]? with
    | none =>
      have h1 := List.getElem?_eq_none_iff.mp hj
      rw [List.getElem?_eq_none (by omega)]
      all_goals rfl
    | some v =>
      obtain ⟨en, hen, hv⟩ := it.2 j v (by rw [← Array.getElem?_toList]; exact hj)
      have qe := entry_at he j
      rw [hen] at qe
      cases hb : ks[j]? with
      | none =>
        rw [hb] at qe
        exact nomatch (show some en = none from qe)
      | some b =>
        rw [hb] at qe
        have e2 : en = entryOfKey (tupleKind (mixKind X.prog X.w)) b := Option.some.inj qe
        rw [hv, e2]
        all_goals rfl
  obtain ⟨L, eL, eL2, hL⟩ : ∃ L : List (Addr × List Int), (ks.map fun x => x.2.1) = L.map (·.1) ∧ L.map (·.2) = ps.map (fun p => [p.1, p.2]) ∧ ∀ z ∈ L, H z.1 = some (.tup (z.2.map V.int)) := by
    have ik := isKeys_of pr
    generalize (ks.map fun x => x.2.1) = bs at ik
    clear eb he pr l1 l2 l3 q z it ha hlen hn
    induction ik generalizing ps with
    | nil =>
      cases ps with
      | nil => exact ⟨[], rfl, rfl, fun _ h => nomatch h⟩
      | cons p ps => cases hkv
    | @cons kv b kvs bs hb t ih =>
      cases ps with
      | nil => cases hkv
      | cons p ps =>
        rw [List.map_cons, List.map_cons] at hkv
        obtain ⟨e1, e2⟩ := List.cons.inj hkv
        obtain ⟨L, a1, a2, a3⟩ := ih ps e2
        refine ⟨(b, [p.1, p.2]) :: L, by rw [List.map_cons, a1], by rw [List.map_cons, a2]; rfl, fun z hz => ?_⟩
        rcases List.mem_cons.mp hz with rfl | hz
        · show H b = some (.tup ([p.1, p.2].map V.int))
          rw [← kp_map, ← e1]
          exact hb
        · exact a3 z hz
  have lL : L.length = ps.length := by have := congrArg List.length eL2; simpa using this
  have eacc : acc.toList = L.map fun q => Value.ref q.1 := by rw [eb, eL, List.map_map]; rfl
  rw [eacc]
  refine wpAny_bind (wpAny_newList ?_ (by rw [sizeLine_eq, List.length_map]; omega))
  have hoL : (h'.push (seqObj "list" (L.map fun q => Value.ref q.1).toArray 0)).get? h'.objs.size = some (seqObj "list" (L.map fun q => Value.ref q.1).toArray 0) := Heap.get?_push_size _ rfl
  have rd : EachIs (fun v (q : Addr × List Int) => ∃ as, Reads (h'.push (seqObj "list" (L.map fun q => Value.ref q.1).toArray 0)) v (encT q) as ∧ h'.objs.size ∉ as) (L.map fun q => Value.ref q.1) L := by
    have key : ∀ l : List (Addr × List Int), (∀ p ∈ l, p ∈ L) → EachIs (fun v (q : Addr × List Int) => ∃ as, Reads (h'.push (seqObj "list" (L.map fun q => Value.ref q.1).toArray 0)) v (encT q) as ∧ h'.objs.size ∉ as) (l.map fun q => Value.ref q.1) l := by
      intro l
      induction l with
      | nil => intro _; exact .nil
      | cons p l ih =>
        intro hl
        refine .cons ?_ (ih fun p' hp' => hl p' (by simp [hp']))
        obtain ⟨its, rv, ⟨ot, hot, hct, n, hdt⟩, _⟩ := I.tuple (SqT.of (hL p (hl p (by simp))))
        refine ⟨[], .tuple (Heap.get?_push_of_some _ (kp _ _ hot)) hct hdt (reads_ints (by simpa using rv)), by simp⟩
    exact key L fun _ h => h
  refine wpAny_bind (wpAny_holding (PySem.W.list_sort_data (s := { s with heap := h'.push (seqObj "list" (L.map fun q => Value.ref q.1).toArray 0), toks := tk }) (bs := L) (enc := encT) hoL (each_refs L) rd (alike_T L) ?_ (by rw [sizeLine_eq]; omega) (fun p hp => ?_) fun out lo eo => ?_))
  · refine .inl fun d hd => ?_
    obtain ⟨p, hp, rfl⟩ := List.mem_map.mp hd
    have hm : p.2 ∈ ps.map (fun p => [p.1, p.2]) := by rw [← eL2]; exact List.mem_map.mpr ⟨p, hp, rfl⟩
    obtain ⟨x, _, ex⟩ := List.mem_map.mp hm
    unfold encT
    rw [← ex]
    exact ⟨_, _, rfl⟩
  · unfold encT
    simp only [PyData.depth]
    rw [PySem.W.depth_ints]
    have : X.A.in1.units ≤ X.A.units + 1 := by simp
    omega
  · have e := refs_each eo
    subst e
    obtain ⟨c, hc⟩ := sortedHeap_at (vs := L.map fun q => Value.ref q.1) (out := List.toArray ((L.mergeSort (dataLe false encT)).map fun q => Value.ref q.1)) hoL
    have keep : ∀ b u, s.heap.get? b = some u → (sortedHeap (h'.push (seqObj "list" (L.map fun q => Value.ref q.1).toArray 0)) h'.objs.size (L.map fun q => Value.ref q.1) (List.toArray ((L.mergeSort (dataLe false encT)).map fun q => Value.ref q.1))).get? b = some u := fun b u e => by
      have q := kp b u e
      have lt := Heap.lt_size q
      rw [sortedHeap_old (Nat.ne_of_lt lt) (by rw [size_push']; exact Nat.lt_succ_of_lt lt)]
      exact Heap.get?_push_of_some _ q
    generalize hH : sortedHeap (h'.push (seqObj "list" (L.map fun q => Value.ref q.1).toArray 0)) h'.objs.size (L.map fun q => Value.ref q.1) (List.toArray ((L.mergeSort (dataLe false encT)).map fun q => Value.ref q.1)) = h2 at keep hc
    have ob : ObjOk X.prog X.w (upd H h'.objs.size (.lst ((L.mergeSort (dataLe false encT)).map fun q => V.ref q.1))) h2 h'.objs.size (.lst ((L.mergeSort (dataLe false encT)).map fun q => V.ref q.1)) :=
      ⟨by rw [List.length_map, List.length_mergeSort, sizeLine_eq]; omega, _, c, vals_of_refs (L.mergeSort (dataLe false encT)), hc⟩
    have hle : s.heap.objs.size ≤ h'.objs.size := Nat.le_of_lt hz
    refine wpAny_pure ⟨_, rfl, .ref h'.objs.size, _, I.laid (t' := tk) keep hle ob, rfl, q L h'.objs.size eL2 hL (I.hok.fresh hle)⟩
end MW

set_option Elab.async false
set_option linter.all false
set_option maxRecDepth 100000
set_option maxHeartbeats 2000000
namespace MW
open PySem PySem.Spec PyProof.Rows L2
set_option autoImplicit false
open PySem.W (EachIs AllAlike Sortable dataLe)
theorem sortT_sd {L : List (Addr × List Int)} {ps : List Pl} (e : L.map (·.2) = ps.map (fun p => [p.1, p.2])) (nd : ps.Nodup) : (L.mergeSort (dataLe false encT)).map (·.2) = (sd ps).map (fun p => [p.1, p.2]) := by
  have hL : ∀ p ∈ L, ∃ z ∈ ps, p.2 = [z.1, z.2] := fun p hp => by
    refine pr_of ?_
    rw [← e]
    exact List.mem_map.mpr ⟨p, hp, rfl⟩
  have hnd : (L.map (·.2)).Nodup := by
    rw [e]
    exact List.pairwise_map.mpr (nd.imp fun {a b} ne z => ne (pr_inj z))
  have pm2 : (L.mergeSort (dataLe false encT)).Perm L := List.mergeSort_perm L _
  have srt1 : (L.mergeSort (dataLe false encT)).Pairwise (fun a b => dataLe false encT a b = true) := by
    have key : L.mergeSort (dataLe false encT) = L.mergeSort (fun a b => decide ((pcode a.2).1 < (pcode b.2).1 ∨ ((pcode a.2).1 = (pcode b.2).1 ∧ (pcode a.2).2 ≤ (pcode b.2).2))) := by
      have z := List.map_mergeSort (l := L) (f := id) (r := dataLe false encT) (s := fun a b => decide ((pcode a.2).1 < (pcode b.2).1 ∨ ((pcode a.2).1 = (pcode b.2).1 ∧ (pcode a.2).2 ≤ (pcode b.2).2))) fun a ha b hb => by
        obtain ⟨p, _, ep⟩ := hL a ha
        obtain ⟨q, _, eq⟩ := hL b hb
        rw [le_T ep eq]
        simp only [id, ep, eq, pcode]
        rfl
      simpa using z
    have z := List.pairwise_mergeSort (le := fun a b : Addr × List Int => decide ((pcode a.2).1 < (pcode b.2).1 ∨ ((pcode a.2).1 = (pcode b.2).1 ∧ (pcode a.2).2 ≤ (pcode b.2).2))) (fun a b c h1 h2 => by simp only [decide_eq_true_eq] at h1 h2 ⊢; omega) (fun a b => by simp only [Bool.or_eq_true, decide_eq_true_eq]; omega) L
    rw [← key] at z
    refine List.Pairwise.imp_of_mem (fun {a b} ha hb h => ?_) z
    obtain ⟨p, _, ep⟩ := hL a (pm2.mem_iff.mp ha)
    obtain ⟨q, _, eq⟩ := hL b (pm2.mem_iff.mp hb)
    rw [le_T ep eq]
    simp only [ep, eq, pcode] at h
    exact h
  generalize L.mergeSort (dataLe false encT) = L2 at pm2 srt1
  obtain ⟨qs, f1, f2⟩ := un_pr (ps := ps) (xs := L2.map (·.2)) fun z hz => by
    obtain ⟨p, hp, rfl⟩ := List.mem_map.mp hz
    obtain ⟨z, hz, e⟩ := hL p (pm2.mem_iff.mp hp)
    rw [e]
    exact mem_pr.mpr hz
  have nd2 : (L2.map (·.2)).Nodup := (pm2.map (·.2)).nodup_iff.mpr hnd
  have hq : qs = sd ps := by
    refine sd_uniq ?_ fun a => ⟨f2 a, fun ha => ?_⟩
    · have pw : (L2.map (·.2)).Pairwise (fun a b => (pcode a).1 < (pcode b).1 ∨ ((pcode a).1 = (pcode b).1 ∧ (pcode a).2 ≤ (pcode b).2)) := by
        refine List.pairwise_map.mpr (List.Pairwise.imp_of_mem (fun {a b} ha hb h => ?_) srt1)
        obtain ⟨p, _, ep⟩ := hL a (pm2.mem_iff.mp ha)
        obtain ⟨q, _, eq⟩ := hL b (pm2.mem_iff.mp hb)
        rw [le_T ep eq] at h
        simpa [ep, eq, pcode] using h
      have both := pw.and nd2
      rw [f1] at both
      refine List.Pairwise.imp (fun {c d} h => ?_) (List.pairwise_map.mp both)
      have h1 : c.1 < d.1 ∨ (c.1 = d.1 ∧ c.2 ≤ d.2) := h.1
      have h2 := h.2
      have ne : c ≠ d := fun z => h2 (by rw [z])
      unfold plt
      rcases h1 with h1 | ⟨h1, h3⟩
      · exact .inl h1
      · refine .inr ⟨h1, ?_⟩
        have : c.2 ≠ d.2 := fun z => ne (Prod.ext h1 z)
        omega
    · have h3 : [a.1, a.2] ∈ L.map (·.2) := by rw [e]; exact mem_pr.mpr ha
      have h4 : [a.1, a.2] ∈ L2.map (·.2) := (pm2.map (·.2)).mem_iff.mpr h3
      rw [f1] at h4
      exact mem_pr.mp h4
  rw [f1, hq]
theorem kpe_bm0 {X : Cx} {K : PySem.W.Frag} {T id : String} {name : Str} {r : V → List V → Hp → VK → Prop} {o : Expr} {to : TE} {apos cpos : Pos} (hK : X.K = K) (pa : PlainAttrs T) (slot : Slot T name id) (hty : typeOf (.builtin id) = pure (.type "method_descriptor")) (hm : MtR X id r) (ho : PE X o to)
    (hbase : attributeBase o name X.env (eval o X.env) = eval o X.env := by rfl) (hline : (apos.endLine == cpos.line) = true := by rfl) : PE X (.Call (.Attribute o name apos) [] [] cpos) (tBM0 K T r to) := hK ▸ pe_bm0 pa slot hty hm ho hbase hline
section
variable {γ : Type} [DV γ] {K : PySem.W.Frag} {σ : L2.St} {S : Sit} {td ty : TE} {a : Addr} {D : Dd γ} {p : Pl}
/-- sorted(d.keys()) -/
theorem ev_sortK (hd : Ev K td σ S (.v (.ref a))) (hD : Dc S a D) (nk : Nk D) (hl : D.length ≤ 100000) : EvD K (tCB (rSortK K) (tCons (tBM0 K "dict" rKeysV td) tNil)) σ S (.list ((sd (D.map (·.1))).map eP)) := fun T l Q q => hd T l _ fun v U lU o => by
  cases (show some v = some (V.ref a) from o)
  have hU := hD.up (l.trans lU)
  refine ⟨.inr (.inr (.inl ⟨rfl, .inr ⟨_, hU.2⟩⟩)), a, _, rfl, rfl, hU.2, fun p hp => ?_⟩
  have ne : a ≠ p := fun z => by have := hU.2; rw [z, hp] at this; cases this
  refine ⟨p, a, D.map eDk, D.map (·.1), rfl, upd_same, by rw [upd_ne ne]; exact hU.2, by rw [List.map_map, List.map_map]; rfl, by rw [List.length_map]; exact hl, fun L r e1 e2 hr => ?_⟩
  have lV : Le U (U.pushM p (keysO p a) hp) := U.pushM_le hp
  have lW := Sit.push_le (U.pushM p (keysO p a) hp) (p := r) (o := .lst ((L.mergeSort (dataLe false encT)).map fun q => V.ref q.1)) hr
  refine q (.ref r) ((U.pushM p (keysO p a) hp).push r _ hr) ((lU.trans lV).trans lW) (Da.lst upd_same (DaAll.up lW.g ?_))
  refine da_refs (sortT_sd e1 nk) fun z hz => ?_
  exact (U.pushM p (keysO p a) hp).tup _ _ (e2 z ((List.mergeSort_perm L _).mem_iff.mp hz))
/-- len(d) -/
theorem ev_lenD (hd : Ev K td σ S (.v (.ref a))) (hD : Dc S a D) : EvD K (tCB rLenT (tCons td tNil)) σ S (.int (D.length : Nat)) := ev_cb1 hd fun T x l hx Q q => by
  cases (show some x = some (V.ref a) from hx)
  refine ⟨a, D.map eDk, rfl, (hD.up l).2, ?_⟩
  rw [List.length_map]
  exact q _ T (Le.refl T) (Da.int _)
/-- d.pop(place, None) -/
def ddrop (D : Dd γ) (p : Pl) : Dd γ := D.filter fun q => decide (q.1 ≠ p)
theorem dropK_D (D : Dd γ) (p : Pl) : dropK (D.map eDk) (kP p) = (ddrop D p).map eDk := by
  unfold dropK ddrop
  rw [List.filter_map]
  congr 1
  refine List.filter_congr fun q _ => ?_
  show (decide ((eDk q).1 ≠ kP p)) = decide (q.1 ≠ p)
  have := key_dec q p
  simp only [ne_eq, decide_not, this]
theorem st_dpop {X : Ends} (hd : Ev K td σ S (.v (.ref a))) (hk : EvD K ty σ S (eP p)) (hD : Dc S a D) (k : ∀ T, Lm [a] S T → Dc T a (ddrop D p) → X.nx σ T.H) : tDrop (tBM K "dict" L2.DX.rPopT td (tCons ty (tCons (tC .non) tNil))) X σ S.H := hd S (Le.refl S) _ fun v U lU o => by
  cases (show some v = some (V.ref a) from o)
  refine ⟨.inr (.inr (.inl ⟨rfl, .inr ⟨_, (hD.up lU).2⟩⟩)), hk U lU _ fun y W lW oW => ?_⟩
  obtain ⟨b, rfl, eb⟩ := da_key oW
  have hW := hD.up (lU.trans lW)
  refine ⟨a, _, kP p, b, .non, rfl, rfl, hW.2, W.sub _ _ eb, fun v hv => ?_, fun hn => ?_⟩
  · obtain ⟨T, eT, lT, dT⟩ := hW.mut (ddrop D p)
    rw [dropK_D, ← eT]
    exact k T (((lU.trans lW).lm []).transM lT (fun x hx => by simp at hx; subst hx; exact hW.has) (fun x hx => nomatch hx)) dT
  · rw [valV_D] at hn
    have hn : dget D p = none := by
      cases e : dget D p with
      | none => rfl
      | some c => rw [e] at hn; cases hn
    have e : ddrop D p = D := by
      unfold ddrop
      refine List.filter_eq_self.mpr fun q hq => decide_eq_true fun z => ?_
      exact dget_none.mp hn (List.mem_map.mpr ⟨q, hq, z⟩)
    refine k W ((lU.trans lW).lm _) ?_
    rw [e]
    exact hW
theorem ddrop_len (D : Dd γ) (p : Pl) : (ddrop D p).length ≤ D.length := List.length_filter_le _ _
theorem Nk.drop {D : Dd γ} (h : Nk D) (p : Pl) : Nk (ddrop D p) := (List.Sublist.map _ List.filter_sublist).nodup h
theorem dget_drop (D : Dd γ) (p q : Pl) : dget (ddrop D p) q = if q = p then none else dget D q := by
  unfold dget ddrop
  rw [List.find?_filter]
  by_cases e : q = p
  · rw [if_pos e]
    rw [List.find?_eq_none.mpr fun a _ h => ?_]
    · rfl
    · simp only [decide_eq_true_eq] at h
      exact h.1 (h.2.trans e)
  · rw [if_neg e]
    congr 2
    funext a
    by_cases h : a.1 = q
    · have : a.1 ≠ p := fun z => e (h.symm.trans z)
      simp [h, e]
    · simp [h]
end
end MW

set_option Elab.async false
set_option linter.all false
set_option maxRecDepth 100000
set_option maxHeartbeats 4000000
namespace MW
open PySem PySem.Spec PyProof.Rows L2
abbrev cE (K : PySem.W.Frag) (x : Str) : Addr := He.ga K x
local macro_rules | `(tactic| walk_at "ev") => `(tactic| first
  | (refine ev_var (by assumption) ?_; rfl)
  | (refine ev_varv (by assumption) ?_; rfl)
  | exact ev_ci
  | exact ev_cs
  | exact ev_cb
  | exact ev_cn
  | exact eb_yes
  | exact ea_nil
  | exact ea_d0
  | exact eo_none
  | (apply ea_cons <;> walk_at "ev")
  | (apply eo_some <;> walk_at "ev")
  | (apply ev_I0 <;> walk_at "ev")
  | (apply ev_B0 <;> walk_at "ev")
  | (apply ev_chain <;> walk_at "ev")
  | (apply ev_neg <;> walk_at "ev")
  | (apply ev_lenL <;> walk_at "ev")
  | (apply ev_lenT <;> walk_at "ev")
  | (apply eb_test <;> walk_at "ev")
  | (apply eb_B <;> walk_at "ev")
  | (apply eb_not <;> walk_at "ev")
  | (apply ev_notV <;> walk_at "ev")
  | (apply ev_tup <;> walk_at "ev")
  | (apply ea_ds <;> walk_at "ev")
  | (apply ev_ixT <;> walk_at "ev")
  | (apply ev_ixL <;> walk_at "ev")
  | (apply ev_eqD <;> walk_at "ev")
  | (apply ev_neD <;> walk_at "ev")
  | (apply ev_inS <;> walk_at "ev")
  | (apply ev_isN <;> walk_at "ev")
  | (apply ev_notN <;> walk_at "ev")
  | (apply ev_andV <;> walk_at "ev")
  | (apply ev_orV <;> walk_at "ev")
  | (apply eb_and <;> walk_at "ev")
  | (apply eb_or <;> walk_at "ev")
  | (apply ev_I <;> walk_at "ev")
  | (apply ev_lenS <;> walk_at "ev")
  | (apply ev_all <;> walk_at "ev")
  | (apply ev_any <;> walk_at "ev")
  | (intro _; walk_at "ev")
  | rfl
  | (with_reducible assumption)
  | decide
  | omega)
def signs4 : Str := "LNRU"
def ruleOk (r : Str) : Bool := (decide ((2 : Int) ≤ (r.length : Nat)) && decide (((r.length : Nat) : Int) ≤ 5)) && r.cps.toList.all fun c => decide (c ∈ signs4.cps.toList)
/-- what a look at a thing promises: it goes on, or it raises -/
def Looks1 (K : PySem.W.Frag) (S : Sit) (ok : Bool) (C : Str) (Q : VK) (E : XK) : Prop := (ok = true → ∀ T, Le S T → Q .non T.H) ∧ (ok = false → ∀ T, Le S T → E (.ref (cE K C)) none T.H)
def sp_look_rule (K : PySem.W.Frag) : Sp := fun vs H Q E => ∃ (S : Sit) (r : Str), S.H = H ∧ Vs K S.G vs [.d (.str r)] ∧ r.length ≤ 10000 ∧ Looks1 K S (ruleOk r) "BadRule" Q E
def wOk : List Int → Bool
  | [x, y, h] => ((decide (0 - 100 ≤ x) && decide (x ≤ 100)) && (decide (0 - 100 ≤ y) && decide (y ≤ 100))) && (decide (0 ≤ h) && decide (h ≤ 3))
  | _ => false
def sp_look_walker (K : PySem.W.Frag) : Sp := fun vs H Q E => ∃ (S : Sit) (w : List Int), S.H = H ∧ Vs K S.G vs [.d (.tuple (w.map PyData.int))] ∧ w.length ≤ 1000 ∧ Looks1 K S (wOk w) "BadWalker" Q E
def mOk (n most : Int) : Bool := decide (0 ≤ n) && decide (n ≤ most)
def sp_look_many (K : PySem.W.Frag) : Sp := fun vs H Q E => ∃ (S : Sit) (n most : Int), S.H = H ∧ Vs K S.G vs [.d (.int n), .d (.int most)] ∧ Looks1 K S (mOk n most) "BadNumber" Q E
def sp_look_floor (K : PySem.W.Frag) : Sp := fun vs H Q E => ∃ (S : Sit) (r : Str) (fl : List Mk), S.H = H ∧ Vs K S.G vs [.d (.str r), .d (.list (fl.map eM))] ∧ r.length ≤ 10000 ∧ fl.length ≤ 1000 ∧ Looks1 K S (floorOk r.length fl) "BadFloor" Q E
theorem joinL0 : ∀ l : List Nat, TL.joinL [] (l.map fun c => [c]) = l
  | [] => rfl
  | [_] => rfl
  | a :: b :: l => congrArg (a :: ·) (joinL0 (b :: l))
theorem join0 (cs : List Nat) : Txt.join "" (cs.map fun c => (⟨#[c]⟩ : Str)) = ⟨cs.toArray⟩ := by
  apply TL.ext_tl
  rw [TL.join_eq, TL.tl_join, List.map_map]
  exact joinL0 cs
theorem ruleOk_of {cs : List Nat} (h2 : 2 ≤ cs.length) (h5 : cs.length ≤ 5) (h : ∀ c ∈ cs, c ∈ signs4.cps.toList) : ruleOk ⟨cs.toArray⟩ = true := by
  unfold ruleOk
  have e : (⟨cs.toArray⟩ : Str).length = cs.length := by show cs.toArray.size = _; simp
  rw [e, decide_eq_true (by omega), decide_eq_true (by omega)]
  simp only [Bool.true_and, List.all_eq_true, decide_eq_true_eq]
  intro c hc
  exact h c (by simpa using hc)
theorem ruleOk_len {r : Str} (h : ruleOk r = true) : 2 ≤ r.length ∧ r.length ≤ 5 := by
  unfold ruleOk at h
  simp only [Bool.and_eq_true, decide_eq_true_eq] at h
  omega
theorem en_join {K : PySem.W.Frag} {t : Addr} {σ : L2.St} {S : Sit} {tb : TE} {b b1 : Nat} {Φ Ψ : PyData → Prop} {a : Str} (hb : EvN K t tb σ S b b1 Φ) (h : ∀ d, Φ d → ∃ ys : List Str, d = .list (ys.map PyData.str) ∧ (ys.map (·.length)).sum + ys.length * a.length ≤ 16777216 ∧ Ψ (.str (Txt.join a ys))) : EvN K t (tM1 (rJoin K) (tC (.str a)) tb) σ S b b1 Ψ := fun T l ht Q q => by
  refine ⟨⟨a, rfl⟩, hb T l ht _ fun d v U hd lU tU o => ?_⟩
  obtain ⟨ys, rfl, hl, hy⟩ := h d hd
  obtain ⟨p, xs, rfl, e1, e2⟩ := Da.lst_eq o
  have e := DaAll.strsV e2
  subst e
  exact ⟨a, p, ys, rfl, rfl, .inl (SqL.of (U.sub _ _ e1)), hl, q _ _ U hy lU tU (Da.str _)⟩
theorem pair_chars {α : Type} {φ : Nat → Prop} : ∀ {xs : List α} {ds : List PyData}, Paired (fun _ d => ∃ c, d = PyData.str ⟨#[c]⟩ ∧ φ c) xs ds → ∃ cs : List Nat, ds = cs.map (fun c => PyData.str ⟨#[c]⟩) ∧ cs.length = xs.length ∧ ∀ c ∈ cs, φ c
  | _, _, .nil => ⟨[], rfl, rfl, fun _ z => nomatch z⟩
  | _, _, .cons ⟨c, e, hc⟩ t => by
    obtain ⟨cs, e1, e2, e3⟩ := pair_chars t
    subst e e1
    exact ⟨c :: cs, rfl, by simp [e2], fun x hx => by rcases List.mem_cons.mp hx with rfl | hx; exact hc; exact e3 x hx⟩
theorem pair_ints {α : Type} {φ : Int → Prop} : ∀ {xs : List α} {ds : List PyData}, Paired (fun _ d => ∃ i, d = PyData.int i ∧ φ i) xs ds → ∃ ns : List Int, ds = ns.map PyData.int ∧ ns.length = xs.length ∧ ∀ i ∈ ns, φ i
  | _, _, .nil => ⟨[], rfl, rfl, fun _ z => nomatch z⟩
  | _, _, .cons ⟨c, e, hc⟩ t => by
    obtain ⟨cs, e1, e2, e3⟩ := pair_ints t
    subst e e1
    exact ⟨c :: cs, rfl, by simp [e2], fun x hx => by rcases List.mem_cons.mp hx with rfl | hx; exact hc; exact e3 x hx⟩
def sp__law_rule (K : PySem.W.Frag) : Sp := fun vs H Q _ => ∃ (S : Sit) (a t : Addr) (ns : List Int) (b : Nat), S.H = H ∧ Vs K S.G vs [.v (.ref a), .v (.ref t)] ∧ SqL K S.G a (ns.map V.int) ∧ Town S t (b + 10) ∧
  ∀ r v T, ruleOk r = true → Lt t S T → Town T t b → Da K T.G v (.str r) → Q v T.H
def eW (w : List Int) : PyData := .tuple (w.map PyData.int)
def eF (fl : List Mk) : PyData := .list (fl.map eM)
def sp__law_state (K : PySem.W.Frag) : Sp := fun vs H Q _ => ∃ (S : Sit) (a t : Addr) (ns : List Int) (r : Str) (b : Nat), S.H = H ∧ Vs K S.G vs [.v (.ref a), .v (.ref t), .d (.str r)] ∧ SqL K S.G a (ns.map V.int) ∧ ruleOk r = true ∧ Town S t (b + 700) ∧
  ∀ x y h fl v T, wOk [x, y, h] = true → floorOk r.length fl = true → Lt t S T → Town T t b → Da K T.G v (.tuple [eW [x, y, h], eF fl]) → Q v T.H
theorem two_of {φ : Int → Prop} {ns : List Int} (h : ns.length = 2) (ha : ∀ i ∈ ns, φ i) : ∃ i j, ns = [i, j] ∧ φ i ∧ φ j := by
  match ns, h with
  | [i, j], _ => exact ⟨i, j, rfl, ha i (by simp), ha j (by simp)⟩
/-- max(-100, min(100, mid[k] + draw - far)) -/
theorem en_coord {K : PySem.W.Frag} {t a : Addr} {σ : L2.St} {S : Sit} {δ : List Sl} {E : XK} {b : Nat} {ns : List Int} {far m0 m1 k : Int} {ks : Nat} {f1 f2 f3 f4 : Int → Int → Int} {f5 : Int → Int} {C : Int → Int → Prop} (hE : Sv K S.G σ δ) (e0 : δ[0]? = some (.v (.ref a))) (e1 : δ[1]? = some (.v (.ref t))) (e3 : δ[3]? = some (.d (.int far))) (e4 : δ[4]? = some (.d (.list [.int m0, .int m1]))) (ek : δ[ks]? = some (.d (.int k))) (hk : k = 0 ∨ k = 1) (hs : SqL K S.G a (ns.map V.int)) (hf : 0 < far)
    (h3 : f3 (f4 2 far) 1 = 2 * far + 1) (h5 : f5 100 = -100) (hC : C 2 far) :
    EvN K t (tCB (fun xs H Q => ∃ i j, xs = [.int i, .int j] ∧ Q (.int (if j > i then j else i)) H) (tCons (tUn (rU fun i => .int (f5 i)) (tC (.int 100))) (tCons (tCB (fun xs H Q => ∃ i j, xs = [.int i, .int j] ∧ Q (.int (if j < i then j else i)) H) (tCons (tC (.int 100)) (tCons
      (tOp (rI0 fun i j => .int (f1 i j)) (tOp (rI0 fun i j => .int (f2 i j)) (tOp (rIxL K) (tVar 4) (tVar ks)) (tCall (sp__law_draw K) [] E (tCons (tVar 0) (tCons (tVar 1) (tCons (tOp (rI0 fun i j => .int (f3 i j)) (tOp (rI C fun i j => .int (f4 i j)) (tC (.int 2)) (tVar 3)) (tC (.int 1))) tNil))))) (tVar 3)) tNil))) tNil))) σ S (b + 1) b (fun d => ∃ i, d = .int i ∧ -100 ≤ i ∧ i ≤ 100) := by
  refine en_b (fun x y => tCB _ (tCons x (tCons y tNil))) (fun _ _ _ _ _ => rfl) (en_pure fun T _ => ev_neg ev_ci) (en_b (Χ := fun d => ∃ i, d = .int i ∧ i ≤ 100) (fun x y => tCB _ (tCons x (tCons y tNil))) (fun _ _ _ _ _ => rfl) (en_pure fun T _ => ev_ci) (en_b (Χ := fun d => ∃ i, d = .int i) (fun x y => tOp _ x y) (fun _ _ _ _ _ => rfl) (en_b (Χ := fun d => ∃ i, d = .int i) (fun x y => tOp _ x y) (fun _ _ _ _ _ => rfl) (b1 := b + 1) (Φ := fun d => ∃ i, d = .int i) ?_
    (en_draw (many := 2 * far + 1) (fun T g => ea_cons (ev_varv (hE.up g) e0) (ea_cons (ev_varv (hE.up g) e1) (ea_cons ?_ ea_nil))) hs (by omega)) ?_) (en_pure fun T g => ev_var (hE.up g) e3) ?_) ?_) ?_
  · rcases hk with rfl | rfl
    · exact en_imp (en_pure fun T g => ev_ixL (ds := [.int m0, .int m1]) (ev_var (hE.up g) e4) (ev_var (hE.up g) ek) rfl) fun d hd => ⟨_, hd⟩
    · exact en_imp (en_pure fun T g => ev_ixL (ds := [.int m0, .int m1]) (ev_var (hE.up g) e4) (ev_var (hE.up g) ek) rfl) fun d hd => ⟨_, hd⟩
  · exact ev_is (ev_I0 (ev_I ev_ci (ev_var (hE.up g) e3) hC) ev_ci) (by rw [h3])
  · rintro d e ⟨i, rfl⟩ ⟨j, rfl, _⟩
    exact ⟨_, ⟨_, rfl⟩, fun x y T _ hx hy => ev_I0 hx hy⟩
  · rintro d e ⟨i, rfl⟩ rfl
    exact ⟨_, ⟨_, rfl⟩, fun x y T _ hx hy => ev_I0 hx hy⟩
  · rintro d e rfl ⟨j, rfl⟩
    exact ⟨_, ⟨_, rfl, by split <;> omega⟩, fun x y T _ hx hy => ev_min2 hx hy⟩
  · rintro d e rfl ⟨j, rfl, hj⟩
    exact ⟨_, ⟨_, rfl, by rw [h5]; split <;> omega, by rw [h5]; split <;> omega⟩, fun x y T _ hx hy => ev_max2 hx hy⟩
theorem rule_signs {r : Str} (h : ruleOk r = true) : ∀ c ∈ r.cps.toList, c = 76 ∨ c = 78 ∨ c = 82 ∨ c = 85 := fun c hc => by
  unfold ruleOk at h
  simp only [Bool.and_eq_true] at h
  have z := of_decide_eq_true (List.all_eq_true.mp h.2 c hc)
  have y : signs4.cps.toList = [76, 78, 82, 85] := by decide +kernel
  rw [y] at z
  simpa using z
def w3 (w : Wk) : List Int := [w.1, w.2.1, w.2.2]
theorem lm_le {S T U : Sit} {p : Addr} (a : Le S T) (b : Lm [p] T U) (hp : S.H p = none) : Le S U := by
  refine ⟨a.1.trans b.1, fun x o h => ?_, fun x o h => (b.2.2 x o (a.2.1 x o h)).trans (a.2.2 x o h)⟩
  have np : x ≠ p := fun z => by rw [z, hp] at h; cases h
  exact b.2.1 x o (by simp [np]) (a.2.1 x o h)
def marksD (fl : List Mk) : Dd Int := fl.foldl (fun D m => dput D (m.1, m.2.1) m.2.2) []
def toldL (D : Dd Int) : List Mk := sortM ((D.filter fun q => decide (0 < q.2)).map mkOf)
def sp_marks (K : PySem.W.Frag) : Sp := fun vs H Q _ => ∃ (S : Sit) (fl : List Mk), S.H = H ∧ Vs K S.G vs [.d (eF fl)] ∧ fl.length ≤ 1000 ∧ ∀ p T, Le S T → (∀ q o, S.H q = some o → q ≠ p) → Dc T p (marksD fl) → Q (.ref p) T.H
def sp_told (K : PySem.W.Frag) : Sp := fun vs H Q _ => ∃ (S : Sit) (p : Addr) (D : Dd Int), S.H = H ∧ Vs K S.G vs [.v (.ref p)] ∧ Dc S p D ∧ Nk D ∧ D.length ≤ 800000 ∧ ∀ v T, Le S T → Da K T.G v (eF (toldL D)) → Q v T.H
def sp_go (K : PySem.W.Frag) : Sp := fun vs H Q _ => ∃ (S : Sit) (r : Str) (p : Addr) (D : Dd Int) (wk : Wk), S.H = H ∧ Vs K S.G vs [.d (.str r), .v (.ref p), .d (eW (w3 wk))] ∧ ruleOk r = true ∧ Dc S p D ∧ Cl r D ∧ D.length ≤ 800000 ∧ ∀ v T, Lm [p] S T → Dc T p (goD r D wk) → Da K T.G v (eW (w3 (goW r D wk))) → Q v T.H
def Sz (r : Str) (w : List Int) (fl : List Mk) : Prop := r.length ≤ 10000 ∧ w.length ≤ 1000 ∧ fl.length ≤ 1000
def bad3 (r : Str) (w : List Int) (fl : List Mk) : Option Str := if ruleOk r = false then some "BadRule" else if wOk w = false then some "BadWalker" else if floorOk r.length fl = false then some "BadFloor" else none
def bad4 (r : Str) (w : List Int) (fl : List Mk) (n most : Int) : Option Str := match bad3 r w fl with
  | some x => some x
  | none => if mOk n most = false then some "BadNumber" else none
def sp_look_all (K : PySem.W.Frag) : Sp := fun vs H Q E => ∃ (S : Sit) (r : Str) (w : List Int) (fl : List Mk), S.H = H ∧ Vs K S.G vs [.d (.str r), .d (eW w), .d (eF fl)] ∧ Sz r w fl ∧ (bad3 r w fl = none → ∀ T, Le S T → Q .non T.H) ∧ ∀ x, bad3 r w fl = some x → ∀ T, Le S T → E (.ref (cE K x)) none T.H
def sp_bad3 (K : PySem.W.Frag) : Sp := fun vs H Q E => ∃ (S : Sit) (r : Str) (w : List Int) (fl : List Mk) (x : Str), S.H = H ∧ Vs K S.G vs [.d (.str r), .d (eW w), .d (eF fl)] ∧ Sz r w fl ∧ bad3 r w fl = some x ∧ ∀ T, Le S T → E (.ref (cE K x)) none T.H
def sp_bad3a (K : PySem.W.Frag) : Sp := fun vs H Q E => ∃ (S : Sit) (r : Str) (w : List Int) (fl : List Mk) (n : Int) (x : Str), S.H = H ∧ Vs K S.G vs [.d (.str r), .d (eW w), .d (eF fl), .d (.int n)] ∧ Sz r w fl ∧ bad3 r w fl = some x ∧ ∀ T, Le S T → E (.ref (cE K x)) none T.H
def sp_bad3b (K : PySem.W.Frag) : Sp := fun vs H Q E => ∃ (S : Sit) (r : Str) (w : List Int) (fl : List Mk) (n m : Int) (x : Str), S.H = H ∧ Vs K S.G vs [.d (.str r), .d (eW w), .d (eF fl), .d (.int n), .d (.int m)] ∧ Sz r w fl ∧ bad3 r w fl = some x ∧ ∀ T, Le S T → E (.ref (cE K x)) none T.H
def sp_bad4 (most : Int) (K : PySem.W.Frag) : Sp := fun vs H Q E => ∃ (S : Sit) (r : Str) (w : List Int) (fl : List Mk) (n : Int) (x : Str), S.H = H ∧ Vs K S.G vs [.d (.str r), .d (eW w), .d (eF fl), .d (.int n)] ∧ Sz r w fl ∧ bad4 r w fl n most = some x ∧ ∀ T, Le S T → E (.ref (cE K x)) none T.H
def sp_alike (K : PySem.W.Frag) : Sp := fun vs H Q E => ∃ (S : Sit) (r : Str) (w : List Int) (fl : List Mk) (w2 : List Int) (fl2 : List Mk) (x : Str), S.H = H ∧ Vs K S.G vs [.d (.str r), .d (eW w), .d (eF fl), .d (eW w2), .d (eF fl2)] ∧ Sz r w fl ∧ Sz r w2 fl2 ∧ (bad3 r w fl = some x ∨ (bad3 r w fl = none ∧ bad3 r w2 fl2 = some x)) ∧ ∀ T, Le S T → E (.ref (cE K x)) none T.H
section
variable {K : PySem.W.Frag} {σ : L2.St} {S : Sit} {E : XK} {tr : TA} {D : Ends} {r : Str} {w : List Int} {fl : List Mk} {n most : Int} {x : Str}
theorem st_look (ha : EvA K tr σ S [.d (.str r), .d (eW w), .d (eF fl)]) (hz : Sz r w fl) (k1 : bad3 r w fl = none → ∀ T, Le S T → D.nx σ T.H) (k2 : ∀ x, bad3 r w fl = some x → ∀ T, Le S T → E (.ref (cE K x)) none T.H) :
    tDrop (tCall (sp_look_all K) [] E tr) D σ S.H := st_dropC ha fun vs T l hv => by
  rw [List.append_nil]
  exact ⟨T, r, w, fl, rfl, hv, hz, fun e U lU => k1 e U (l.trans lU), fun x e U lU => k2 x e U (l.trans lU)⟩
theorem st_many (ha : EvA K tr σ S [.d (.int n), .d (.int most)]) (k1 : mOk n most = true → ∀ T, Le S T → D.nx σ T.H) (k2 : mOk n most = false → ∀ T, Le S T → E (.ref (cE K "BadNumber")) none T.H) :
    tDrop (tCall (sp_look_many K) [] E tr) D σ S.H := st_dropC ha fun vs T l hv => by
  rw [List.append_nil]
  exact ⟨T, n, most, rfl, hv, fun e U lU => k1 e U (l.trans lU), fun e U lU => k2 e U (l.trans lU)⟩
theorem tc_bad4 (ha : EvA K tr σ S [.d (.str r), .d (eW w), .d (eF fl), .d (.int n)]) (hz : Sz r w fl) (hb : bad4 r w fl n most = some x) (k : ∀ T, Le S T → E (.ref (cE K x)) none T.H) (Q : VK) : tCall (sp_bad4 most K) [] E tr σ S.H Q :=
  ha S (Le.refl S) _ fun vs T l hv => by
    rw [List.append_nil]
    exact ⟨T, r, w, fl, n, x, rfl, hv, hz, hb, fun U lU => k U (l.trans lU)⟩
theorem tc_bad3 (ha : EvA K tr σ S [.d (.str r), .d (eW w), .d (eF fl)]) (hz : Sz r w fl) (hb : bad3 r w fl = some x) (k : ∀ T, Le S T → E (.ref (cE K x)) none T.H) (Q : VK) : tCall (sp_bad3 K) [] E tr σ S.H Q :=
  ha S (Le.refl S) _ fun vs T l hv => by
    rw [List.append_nil]
    exact ⟨T, r, w, fl, x, rfl, hv, hz, hb, fun U lU => k U (l.trans lU)⟩
theorem tc_bad3a (ha : EvA K tr σ S [.d (.str r), .d (eW w), .d (eF fl), .d (.int n)]) (hz : Sz r w fl) (hb : bad3 r w fl = some x) (k : ∀ T, Le S T → E (.ref (cE K x)) none T.H) (Q : VK) : tCall (sp_bad3a K) [] E tr σ S.H Q :=
  ha S (Le.refl S) _ fun vs T l hv => by
    rw [List.append_nil]
    exact ⟨T, r, w, fl, n, x, rfl, hv, hz, hb, fun U lU => k U (l.trans lU)⟩
theorem tc_bad3b {m : Int} (ha : EvA K tr σ S [.d (.str r), .d (eW w), .d (eF fl), .d (.int n), .d (.int m)]) (hz : Sz r w fl) (hb : bad3 r w fl = some x) (k : ∀ T, Le S T → E (.ref (cE K x)) none T.H) (Q : VK) : tCall (sp_bad3b K) [] E tr σ S.H Q :=
  ha S (Le.refl S) _ fun vs T l hv => by
    rw [List.append_nil]
    exact ⟨T, r, w, fl, n, m, x, rfl, hv, hz, hb, fun U lU => k U (l.trans lU)⟩
theorem tc_alike {w2 : List Int} {fl2 : List Mk} (ha : EvA K tr σ S [.d (.str r), .d (eW w), .d (eF fl), .d (eW w2), .d (eF fl2)]) (hz : Sz r w fl) (hz2 : Sz r w2 fl2) (hb : bad3 r w fl = some x ∨ (bad3 r w fl = none ∧ bad3 r w2 fl2 = some x)) (k : ∀ T, Le S T → E (.ref (cE K x)) none T.H) (Q : VK) : tCall (sp_alike K) [] E tr σ S.H Q :=
  ha S (Le.refl S) _ fun vs T l hv => by
    rw [List.append_nil]
    exact ⟨T, r, w, fl, w2, fl2, x, rfl, hv, hz, hz2, hb, fun U lU => k U (l.trans lU)⟩
theorem bad4_of {x : Str} (h : bad3 r w fl = some x) : bad4 r w fl n most = some x := by unfold bad4; rw [h]
theorem bad4_no (h : bad3 r w fl = none) (m : mOk n most = false) : bad4 r w fl n most = some "BadNumber" := by unfold bad4; rw [h]; simp [m]
theorem st_dnew {δ : List Sl} {i : Nat} (hE : Sv K S.G σ δ) (k : ∀ p σ' T, Le S T → T.H p = some (.dT []) → T.G p = none → Sv K T.G σ' (δ.set i (.v (.ref p))) → D.nx σ' T.H) : tAsg tDNewT (gName i) D σ S.H := fun p hp =>
  k p _ (S.pushM p (.dT []) hp) (S.pushM_le hp) upd_same (S.gfree hp) (Sv.set (slOk_v (K := K) (G := S.G) (.ref p)) i hE)
end
def bkP (wk : Wk) : Pl := (wk.1 - (ahead wk.2.2).1, wk.2.1 - (ahead wk.2.2).2)
def bkC (r : Str) (D : Dd Int) (wk : Wk) : Int := (at0 D (bkP wk) - 1) % (r.length : Int)
def bkD (r : Str) (D : Dd Int) (wk : Wk) : Dd Int := dput D (bkP wk) (bkC r D wk)
def bkW (r : Str) (D : Dd Int) (wk : Wk) : Wk := ((bkP wk).1, (bkP wk).2, (wk.2.2 - turnOf (signAt r (bkC r D wk))) % 4)
theorem Cl.back {r : Str} {D : Dd Int} (h : Cl r D) (hr : 2 ≤ r.length) (wk : Wk) : Cl r (bkD r D wk) := dput_all h ⟨Int.emod_nonneg _ (by omega), Int.emod_lt_of_pos _ (by omega)⟩
def itG (r : Str) (s : Dd Int × Wk) : Nat → Dd Int × Wk
  | 0 => s
  | n + 1 => (goD r (itG r s n).1 (itG r s n).2, goW r (itG r s n).1 (itG r s n).2)
def itB (r : Str) (s : Dd Int × Wk) : Nat → Dd Int × Wk
  | 0 => s
  | n + 1 => (bkD r (itB r s n).1 (itB r s n).2, bkW r (itB r s n).1 (itB r s n).2)
structure Okc (r : Str) (D : Dd Int) (n : Nat) : Prop where
  cl : Cl r D
  nk : Nk D
  le : D.length ≤ n
theorem Okc.go {r : Str} {D : Dd Int} {n : Nat} (h : Okc r D n) (hr : 2 ≤ r.length) (wk : Wk) : Okc r (goD r D wk) (n + 1) := ⟨h.cl.go hr wk, h.nk.put _ _, by have := dput_len D (wk.1, wk.2.1) ((at0 D (wk.1, wk.2.1) + 1) % (r.length : Int)); have := h.le; unfold goD; omega⟩
theorem Okc.back {r : Str} {D : Dd Int} {n : Nat} (h : Okc r D n) (hr : 2 ≤ r.length) (wk : Wk) : Okc r (bkD r D wk) (n + 1) := ⟨h.cl.back hr wk, h.nk.put _ _, by have := dput_len D (bkP wk) (bkC r D wk); have := h.le; unfold bkD; omega⟩
theorem okc_marks {r : Str} : ∀ {fl : List Mk}, (∀ m ∈ fl, markOk r.length m = true) → Okc r (marksD fl) fl.length := by
  intro fl h
  have key : ∀ (l : List Mk) (D : Dd Int) (n : Nat), (∀ m ∈ l, markOk r.length m = true) → Okc r D n → Okc r (l.foldl (fun D m => dput D (m.1, m.2.1) m.2.2) D) (n + l.length) := by
    intro l
    induction l with
    | nil => intro D n _ h; exact h
    | cons m l ih =>
      intro D n hl hD
      have hm := hl m (by simp)
      unfold markOk at hm
      simp only [Bool.and_eq_true, decide_eq_true_eq] at hm
      have z := ih (dput D (m.1, m.2.1) m.2.2) (n + 1) (fun x hx => hl x (by simp [hx])) ⟨dput_all hD.cl ⟨by show 0 ≤ m.2.2; omega, by show m.2.2 < _; omega⟩, hD.nk.put _ _, by have := dput_len D (m.1, m.2.1) m.2.2; have := hD.le; omega⟩
      rw [show n + (m :: l).length = n + 1 + l.length by simp; omega]
      exact z
  have z := key fl [] 0 h ⟨(fun _ z => nomatch z), List.nodup_nil, Nat.le_refl _⟩
  rw [Nat.zero_add] at z
  exact z
theorem itG_ok {r : Str} (hr : 2 ≤ r.length) {s : Dd Int × Wk} {m : Nat} (h : Okc r s.1 m) : ∀ n, Okc r (itG r s n).1 (m + n)
  | 0 => h
  | n + 1 => (itG_ok hr h n).go hr _
theorem itB_ok {r : Str} (hr : 2 ≤ r.length) {s : Dd Int × Wk} {m : Nat} (h : Okc r s.1 m) : ∀ n, Okc r (itB r s n).1 (m + n)
  | 0 => h
  | n + 1 => (itB_ok hr h n).back hr _
theorem itB_h {r : Str} {s : Dd Int × Wk} (h : 0 ≤ s.2.2.2 ∧ s.2.2.2 < 4) : ∀ n, 0 ≤ (itB r s n).2.2.2 ∧ (itB r s n).2.2.2 < 4
  | 0 => h
  | _ + 1 => ⟨Int.emod_nonneg _ (by decide), Int.emod_lt_of_pos _ (by decide)⟩
def sp_go_back (K : PySem.W.Frag) : Sp := fun vs H Q _ => ∃ (S : Sit) (r : Str) (p : Addr) (D : Dd Int) (wk : Wk), S.H = H ∧ Vs K S.G vs [.d (.str r), .v (.ref p), .d (eW (w3 wk))] ∧ ruleOk r = true ∧ Dc S p D ∧ Cl r D ∧ D.length ≤ 800000 ∧ (0 ≤ wk.2.2 ∧ wk.2.2 < 4) ∧ ∀ v T, Lm [p] S T → Dc T p (bkD r D wk) → Da K T.G v (eW (w3 (bkW r D wk))) → Q v T.H
def eWF (s : Dd Int × Wk) : PyData := .tuple [eW (w3 s.2), eF (toldL s.1)]
def sp_runs (it : Str → Dd Int × Wk → Nat → Dd Int × Wk) (most : Int) (K : PySem.W.Frag) : Sp := fun vs H Q E => ∃ (S : Sit) (r : Str) (wl : List Int) (fl : List Mk) (n : Int), S.H = H ∧ Vs K S.G vs [.d (.str r), .d (eW wl), .d (eF fl), .d (.int n)] ∧ Sz r wl fl ∧
  (∀ x, bad4 r wl fl n most = some x → ∀ T, Le S T → E (.ref (cE K x)) none T.H) ∧ (bad4 r wl fl n most = none → ∀ wk, wl = w3 wk → ∀ v T, Le S T → Da K T.G v (eWF (it r (marksD fl, wk) n.toNat)) → Q v T.H)
theorem ev_toldC {K : PySem.W.Frag} {σ : L2.St} {S : Sit} {E : XK} {tr : TA} {p : Addr} {D : Dd Int} (ha : EvA K tr σ S [.v (.ref p)]) (hD : Dc S p D) (nk : Nk D) (hl : D.length ≤ 800000) : EvD K (tCall (sp_told K) [] E tr) σ S (eF (toldL D)) := fun T l Q q => ha T l _ fun vs U lU hv => by
  rw [List.append_nil]
  exact ⟨U, p, D, rfl, hv, hD.up (l.trans lU), nk, hl, fun v W lW o => q v W (lU.trans lW) o⟩
theorem bad3_at {r : Str} {w : List Int} {fl : List Mk} (h : bad3 r w fl = none) : ruleOk r = true ∧ wOk w = true ∧ floorOk r.length fl = true := by
  unfold bad3 at h
  split at h
  · cases h
  · split at h
    · cases h
    · split at h
      · cases h
      · rename_i a b c
        exact ⟨by simpa using a, by simpa using b, by simpa using c⟩
theorem wOk_at {w : List Int} (h : wOk w = true) : ∃ wk : Wk, w = w3 wk ∧ (-100 ≤ wk.1 ∧ wk.1 ≤ 100) ∧ (-100 ≤ wk.2.1 ∧ wk.2.1 ≤ 100) ∧ 0 ≤ wk.2.2 ∧ wk.2.2 < 4 := by
  unfold wOk at h
  split at h
  · rename_i x y z
    simp only [Bool.and_eq_true, decide_eq_true_eq] at h
    exact ⟨(x, y, z), rfl, by show _ ≤ x ∧ x ≤ _; omega, by show _ ≤ y ∧ y ≤ _; omega, by show 0 ≤ z ∧ z < 4; omega⟩
  · cases h
theorem okc_cols {r : Str} {fl : List Mk} (h : ∀ m ∈ fl, 0 ≤ m.2.2 ∧ m.2.2 < (r.length : Int)) : Okc r (marksD fl) fl.length := by
  have key : ∀ (l : List Mk) (D : Dd Int) (n : Nat), (∀ m ∈ l, 0 ≤ m.2.2 ∧ m.2.2 < (r.length : Int)) → Okc r D n → Okc r (l.foldl (fun D m => dput D (m.1, m.2.1) m.2.2) D) (n + l.length) := by
    intro l
    induction l with
    | nil => intro D n _ h; exact h
    | cons m l ih =>
      intro D n hl hD
      have z := ih (dput D (m.1, m.2.1) m.2.2) (n + 1) (fun x hx => hl x (by simp [hx])) ⟨dput_all hD.cl (hl m (by simp)), hD.nk.put _ _, by have := dput_len D (m.1, m.2.1) m.2.2; have := hD.le; omega⟩
      rw [show n + (m :: l).length = n + 1 + l.length by simp; omega]
      exact z
  have z := key fl [] 0 h ⟨(fun _ z => nomatch z), List.nodup_nil, Nat.le_refl _⟩
  rw [Nat.zero_add] at z
  exact z
def goWs (r : Str) (s : Dd Int × Wk) (n : Nat) : List Wk := (List.range (n + 1)).map fun k => (itG r s k).2
def goSs (r : Str) (s : Dd Int × Wk) (n : Nat) : List Int := (List.range n).map fun k => at0 (itG r s k).1 ((itG r s k).2.1, (itG r s k).2.2.1)
theorem goWs_last (r : Str) (s : Dd Int × Wk) (n : Nat) : ∃ l, goWs r s n = l ++ [(itG r s n).2] ∧ l.length = n := by
  unfold goWs
  rw [List.range_succ, List.map_append]
  exact ⟨_, rfl, by simp⟩
theorem goWs_succ (r : Str) (s : Dd Int × Wk) (n : Nat) : goWs r s (n + 1) = goWs r s n ++ [(itG r s (n + 1)).2] := by
  unfold goWs
  rw [List.range_succ (n := n + 1), List.map_append]
  rfl
theorem goSs_succ (r : Str) (s : Dd Int × Wk) (n : Nat) : goSs r s (n + 1) = goSs r s n ++ [at0 (itG r s n).1 ((itG r s n).2.1, (itG r s n).2.2.1)] := by
  unfold goSs
  rw [List.range_succ, List.map_append]
  rfl
def eW3 (wk : Wk) : PyData := eW (w3 wk)
def sp__law_went (K : PySem.W.Frag) : Sp := fun vs H Q _ => ∃ (S : Sit) (r : Str) (wk : Wk) (fl : List Mk) (n : Nat), S.H = H ∧ Vs K S.G vs [.d (.str r), .d (eW3 wk), .d (eF fl), .d (.int (n : Nat))] ∧ ruleOk r = true ∧ (∀ m ∈ fl, 0 ≤ m.2.2 ∧ m.2.2 < (r.length : Int)) ∧ fl.length ≤ 100000 ∧ n ≤ 100000 ∧
  ∀ tp v1 v2 p T, Le S T → (∀ q o, S.H q = some o → q ≠ p) → T.G tp = some (.tup [v1, v2, .ref p]) → Da K T.G v1 (.list ((goWs r (marksD fl, wk) n).map eW3)) → Da K T.G v2 (.list ((goSs r (marksD fl, wk) n).map PyData.int)) → Dc T p (itG r (marksD fl, wk) n).1 → Q (.ref tp) T.H
theorem none_of_np {S : Sit} {p : Addr} (np : ∀ q o, S.H q = some o → q ≠ p) : S.H p = none := by
  cases e : S.H p with
  | none => rfl
  | some o => exact absurd rfl (np p o e)
theorem Ow.keepG {K : PySem.W.Frag} {S T : Sit} {p c : Addr} {ds : List PyData} (h : Ow K S p ds) (hH : T.H = S.H) (hG : Same S.G T.G) (hq : ∀ q, q ≠ c → T.G q = S.G q) (ne : p ≠ c) : Ow K T p ds := by
  obtain ⟨g, xs, e, d⟩ := h
  exact ⟨(hq p ne).trans g, xs, by rw [hH]; exact e, DaAll.up hG d⟩
theorem Dc.keepG {γ : Type} [DV γ] {S T : Sit} {p c : Addr} {D : Dd γ} (h : Dc S p D) (hH : T.H = S.H) (hq : ∀ q, q ≠ c → T.G q = S.G q) (ne : p ≠ c) : Dc T p D := ⟨(hq p ne).trans h.1, by rw [hH]; exact h.2⟩
theorem Le.keepG {S T U : Sit} {c : Addr} (a : Le S T) (hH : U.H = T.H) (hG : Same T.G U.G) (hq : ∀ q, q ≠ c → U.G q = T.G q) (hc : S.H c = none) : Le S U := by
  refine ⟨a.1.trans hG, fun x o h => by rw [hH]; exact a.2.1 x o h, fun x o h => ?_⟩
  have ne : x ≠ c := fun z => by rw [z, hc] at h; cases h
  exact (hq x ne).trans (a.2.2 x o h)
/-! ### steps there and back -/
def Eqd (D D' : Dd Int) : Prop := ∀ p, at0 D p = at0 D' p
theorem Eqd.symm {D D' : Dd Int} (h : Eqd D D') : Eqd D' D := fun p => (h p).symm
theorem Eqd.trans {A B C : Dd Int} (h : Eqd A B) (k : Eqd B C) : Eqd A C := fun p => (h p).trans (k p)
theorem at0_put (D : Dd Int) (p q : Pl) (c : Int) : at0 (dput D p c) q = if q = p then c else at0 D q := by
  unfold at0
  rw [dget_put]
  split <;> rfl
theorem goH_eq {r : Str} {D D' : Dd Int} (h : Eqd D D') (wk : Wk) : goH r D wk = goH r D' wk := by unfold goH; rw [h]
theorem goW_eq {r : Str} {D D' : Dd Int} (h : Eqd D D') (wk : Wk) : goW r D wk = goW r D' wk := by unfold goW; rw [goH_eq h]
theorem goD_eq {r : Str} {D D' : Dd Int} (h : Eqd D D') (wk : Wk) : Eqd (goD r D wk) (goD r D' wk) := fun p => by
  unfold goD
  rw [at0_put, at0_put, h, h]
theorem bkC_eq {r : Str} {D D' : Dd Int} (h : Eqd D D') (wk : Wk) : bkC r D wk = bkC r D' wk := by unfold bkC; rw [h]
theorem bkW_eq {r : Str} {D D' : Dd Int} (h : Eqd D D') (wk : Wk) : bkW r D wk = bkW r D' wk := by unfold bkW; rw [bkC_eq h]
theorem bkD_eq {r : Str} {D D' : Dd Int} (h : Eqd D D') (wk : Wk) : Eqd (bkD r D wk) (bkD r D' wk) := fun p => by
  unfold bkD
  rw [at0_put, at0_put, bkC_eq h, h]
def Eqs (s s' : Dd Int × Wk) : Prop := Eqd s.1 s'.1 ∧ s.2 = s'.2
theorem itG_eq {r : Str} {s s' : Dd Int × Wk} (h : Eqs s s') : ∀ n, Eqs (itG r s n) (itG r s' n)
  | 0 => h
  | n + 1 => by
    obtain ⟨h1, h2⟩ := itG_eq h n
    refine ⟨?_, ?_⟩
    · show Eqd (goD r _ _) (goD r _ _)
      rw [h2]; exact goD_eq h1 _
    · show goW r _ _ = goW r _ _
      rw [h2]; exact goW_eq h1 _
theorem itB_eq {r : Str} {s s' : Dd Int × Wk} (h : Eqs s s') : ∀ n, Eqs (itB r s n) (itB r s' n)
  | 0 => h
  | n + 1 => by
    obtain ⟨h1, h2⟩ := itB_eq h n
    refine ⟨?_, ?_⟩
    · show Eqd (bkD r _ _) (bkD r _ _)
      rw [h2]; exact bkD_eq h1 _
    · show bkW r _ _ = bkW r _ _
      rw [h2]; exact bkW_eq h1 _
/-- forth behind back -/
theorem go_back_id {r : Str} {D : Dd Int} {wk : Wk} (hr : 2 ≤ r.length) (hc : Cl r D) (hh : 0 ≤ wk.2.2 ∧ wk.2.2 < 4) : Eqd (goD r (bkD r D wk) (bkW r D wk)) D ∧ goW r (bkD r D wk) (bkW r D wk) = wk := by
  have a : at0 (bkD r D wk) ((bkW r D wk).1, (bkW r D wk).2.1) = bkC r D wk := by
    unfold bkD
    rw [at0_put]
    exact if_pos rfl
  obtain ⟨c0, c1⟩ := hc.at hr (bkP wk)
  have m : (bkC r D wk + 1) % (r.length : Int) = at0 D (bkP wk) := by
    unfold bkC
    rw [Int.emod_add_emod, Int.sub_add_cancel]
    exact Int.emod_eq_of_lt c0 c1
  have hH : goH r (bkD r D wk) (bkW r D wk) = wk.2.2 := by
    unfold goH
    rw [a]
    show ((wk.2.2 - turnOf (signAt r (bkC r D wk))) % 4 + turnOf (signAt r (bkC r D wk))) % 4 = wk.2.2
    omega
  refine ⟨fun p => ?_, ?_⟩
  · unfold goD
    rw [at0_put, a, m]
    show (if p = bkP wk then _ else at0 (dput D (bkP wk) _) p) = at0 D p
    rw [at0_put]
    by_cases e : p = bkP wk
    · rw [if_pos e, e]
    · rw [if_neg e, if_neg e]
  · unfold goW
    rw [hH]
    refine Prod.ext ?_ (Prod.ext ?_ rfl)
    · show wk.1 - _ + _ = wk.1
      omega
    · show wk.2.1 - _ + _ = wk.2.1
      omega
/-- back behind forth -/
theorem back_go_id {r : Str} {D : Dd Int} {wk : Wk} (hr : 2 ≤ r.length) (hc : Cl r D) (hh : 0 ≤ wk.2.2 ∧ wk.2.2 < 4) : Eqd (bkD r (goD r D wk) (goW r D wk)) D ∧ bkW r (goD r D wk) (goW r D wk) = wk := by
  have eP : bkP (goW r D wk) = (wk.1, wk.2.1) := by
    refine Prod.ext ?_ ?_
    · show wk.1 + (ahead (goH r D wk)).1 - (ahead (goH r D wk)).1 = wk.1
      omega
    · show wk.2.1 + (ahead (goH r D wk)).2 - (ahead (goH r D wk)).2 = wk.2.1
      omega
  obtain ⟨c0, c1⟩ := hc.at hr (wk.1, wk.2.1)
  have eC : bkC r (goD r D wk) (goW r D wk) = at0 D (wk.1, wk.2.1) := by
    unfold bkC goD
    rw [eP, at0_put, if_pos rfl, Int.emod_sub_emod, Int.add_sub_cancel]
    exact Int.emod_eq_of_lt c0 c1
  refine ⟨fun p => ?_, ?_⟩
  · unfold bkD
    rw [at0_put, eP, eC]
    unfold goD
    rw [at0_put]
    by_cases e : p = (wk.1, wk.2.1)
    · rw [if_pos e, e]
    · rw [if_neg e, if_neg e]
  · unfold bkW
    rw [eP, eC]
    refine Prod.ext rfl (Prod.ext rfl ?_)
    show ((wk.2.2 + turnOf (signAt r (at0 D (wk.1, wk.2.1)))) % 4 - turnOf (signAt r (at0 D (wk.1, wk.2.1)))) % 4 = wk.2.2
    omega
/-- what is told of a dict goes by its colours -/
theorem mem_pos {D : Dd Int} (hn : Nk D) {q : Pl × Int} : (q ∈ D ∧ 0 < q.2) ↔ (at0 D q.1 = q.2 ∧ 0 < q.2) := by
  constructor
  · rintro ⟨h1, h2⟩
    refine ⟨?_, h2⟩
    unfold at0
    rw [dget_of hn h1]
    rfl
  · rintro ⟨h1, h2⟩
    refine ⟨?_, h2⟩
    unfold at0 at h1
    cases e : dget D q.1 with
    | none => rw [e] at h1; simp at h1; omega
    | some c =>
      rw [e] at h1
      have z := dget_mem e
      have : c = q.2 := h1
      rw [this] at z
      exact z
theorem nk_nodup {D : Dd Int} (h : Nk D) : D.Nodup := List.Pairwise.of_map (fun q : Pl × Int => q.1) (fun _ _ hne e => hne (congrArg _ e)) h
theorem told_eq {D D' : Dd Int} (hn : Nk D) (hn' : Nk D') (h : Eqd D D') : toldL D = toldL D' := by
  refine sortM_uniq (List.Perm.map _ ((List.perm_ext_iff_of_nodup ((nk_nodup hn).filter _) ((nk_nodup hn').filter _)).mpr fun q => ?_))
  simp only [List.mem_filter, decide_eq_true_eq]
  rw [mem_pos hn, mem_pos hn', h]
def unMk (m : Mk) : Pl × Int := ((m.1, m.2.1), m.2.2)
theorem marks_id {fl : List Mk} (h : (fl.map plOf).Nodup) : marksD fl = fl.map unMk := by
  have key : ∀ (l : List Mk) (D : Dd Int), (l.map plOf).Nodup → (∀ m ∈ l, plOf m ∉ D.map (·.1)) → l.foldl (fun D m => dput D (m.1, m.2.1) m.2.2) D = D ++ l.map unMk := by
    intro l
    induction l with
    | nil => intro D _ _; simp
    | cons m l ih =>
      intro D hn hd
      obtain ⟨n1, n2⟩ := List.nodup_cons.mp hn
      have e : dput D (m.1, m.2.1) m.2.2 = D ++ [unMk m] := by
        unfold dput
        rw [if_neg]
        · rfl
        · intro z
          obtain ⟨q, hq, e⟩ := List.any_eq_true.mp z
          simp at e
          exact hd m (by simp) (List.mem_map.mpr ⟨q, hq, e⟩)
      rw [List.foldl_cons, e, ih _ n2 fun x hx => ?_]
      · simp
      · rw [List.map_append, List.mem_append]
        rintro (z | z)
        · exact hd x (by simp [hx]) z
        · simp only [List.map_cons, List.map_nil, List.mem_singleton] at z
          exact n1 (by rw [show plOf m = (unMk m).1 from rfl, ← z]; exact List.mem_map.mpr ⟨x, hx, rfl⟩)
  have z := key fl [] h (fun _ _ z => nomatch z)
  simpa [marksD] using z
theorem rise_nodup {l : List Pl} (h : l.Pairwise plt) : l.Nodup := List.Pairwise.imp (fun {a b} (z : plt a b) (e : a = b) => plt_irr b (e ▸ z)) h
/-- told, and marked again -/
theorem told_rise {D : Dd Int} (hn : Nk D) : ((toldL D).map plOf).Pairwise plt := by
  refine sortM_rise ?_
  rw [mkOf_places]
  exact (List.Sublist.map _ (List.filter_sublist)).nodup hn
theorem marks_told {D : Dd Int} (hn : Nk D) (hp : ∀ q ∈ D, 0 ≤ q.2) : Eqd (marksD (toldL D)) D := fun p => by
  have nd := rise_nodup (told_rise hn)
  rw [marks_id nd]
  have nk' : Nk ((toldL D).map unMk) := by
    unfold Nk
    rw [List.map_map]
    exact nd
  have mem : ∀ q : Pl × Int, q ∈ (toldL D).map unMk ↔ (q ∈ D ∧ 0 < q.2) := fun q => by
    constructor
    · intro h
      obtain ⟨m, hm, rfl⟩ := List.mem_map.mp h
      obtain ⟨z, hz, rfl⟩ := List.mem_map.mp ((sortM_perm _).mem_iff.mp hm)
      obtain ⟨z1, z2⟩ := List.mem_filter.mp hz
      exact ⟨z1, of_decide_eq_true z2⟩
    · rintro ⟨h1, h2⟩
      exact List.mem_map.mpr ⟨mkOf q, (sortM_perm _).mem_iff.mpr (List.mem_map.mpr ⟨q, List.mem_filter.mpr ⟨h1, by simpa using h2⟩, rfl⟩), rfl⟩
  unfold at0
  cases e : dget D p with
  | none =>
    have z : dget ((toldL D).map unMk) p = none := dget_none.mpr fun h => by
      obtain ⟨q, hq, rfl⟩ := List.mem_map.mp h
      exact dget_none.mp e (List.mem_map.mpr ⟨q, ((mem q).mp hq).1, rfl⟩)
    rw [z]
  | some c =>
    have hc := dget_mem e
    by_cases c0 : 0 < c
    · have z := dget_of nk' ((mem (p, c)).mpr ⟨hc, c0⟩)
      rw [z]
    · have : c = 0 := by have := hp _ hc; simp at this; omega
      subst this
      cases z : dget ((toldL D).map unMk) p with
      | none => rfl
      | some c' =>
        have y := (mem (p, c')).mp (dget_mem z)
        have x := dget_of hn y.1
        rw [e] at x
        cases x
        rfl
theorem told_marks {fl : List Mk} (h : (fl.map plOf).Pairwise plt) (hp : ∀ m ∈ fl, 0 < m.2.2) : toldL (marksD fl) = fl := by
  rw [marks_id (rise_nodup h)]
  unfold toldL
  have e : ((fl.map unMk).filter fun q => decide (0 < q.2)) = fl.map unMk := List.filter_eq_self.mpr fun q hq => by
    obtain ⟨m, hm, rfl⟩ := List.mem_map.mp hq
    exact decide_eq_true (hp m hm)
  rw [e, List.map_map]
  have e2 : (mkOf ∘ unMk) = id := rfl
  rw [e2, List.map_id]
  exact rise_sorted h
theorem itG_shift (r : Str) (s : Dd Int × Wk) : ∀ n, itG r s (n + 1) = itG r (goD r s.1 s.2, goW r s.1 s.2) n
  | 0 => rfl
  | n + 1 => by
    have z := itG_shift r s n
    show (goD r (itG r s (n + 1)).1 (itG r s (n + 1)).2, goW r (itG r s (n + 1)).1 (itG r s (n + 1)).2) = _
    rw [z]
    rfl
theorem itB_shift (r : Str) (s : Dd Int × Wk) : ∀ n, itB r s (n + 1) = itB r (bkD r s.1 s.2, bkW r s.1 s.2) n
  | 0 => rfl
  | n + 1 => by
    have z := itB_shift r s n
    show (bkD r (itB r s (n + 1)).1 (itB r s (n + 1)).2, bkW r (itB r s (n + 1)).1 (itB r s (n + 1)).2) = _
    rw [z]
    rfl
theorem Eqs.trans {a b c : Dd Int × Wk} (h : Eqs a b) (k : Eqs b c) : Eqs a c := ⟨h.1.trans k.1, h.2.trans k.2⟩
theorem Eqs.symm {a b : Dd Int × Wk} (h : Eqs a b) : Eqs b a := ⟨h.1.symm, h.2.symm⟩
theorem itG_h {r : Str} {s : Dd Int × Wk} (h : 0 ≤ s.2.2.2 ∧ s.2.2.2 < 4) : ∀ n, 0 ≤ (itG r s n).2.2.2 ∧ (itG r s n).2.2.2 < 4
  | 0 => h
  | _ + 1 => ⟨Int.emod_nonneg _ (by decide), Int.emod_lt_of_pos _ (by decide)⟩
theorem forth_back {r : Str} {s : Dd Int × Wk} {m : Nat} (hr : 2 ≤ r.length) (ok : Okc r s.1 m) (hh : 0 ≤ s.2.2.2 ∧ s.2.2.2 < 4) : ∀ n, Eqs (itG r (itB r s n) n) s
  | 0 => ⟨fun _ => rfl, rfl⟩
  | n + 1 => by
    rw [itG_shift]
    obtain ⟨a, b⟩ := go_back_id hr (itB_ok hr ok n).cl (itB_h hh n)
    exact (itG_eq (s := (goD r (itB r s (n + 1)).1 (itB r s (n + 1)).2, goW r (itB r s (n + 1)).1 (itB r s (n + 1)).2)) (s' := itB r s n) ⟨a, b⟩ n).trans (forth_back hr ok hh n)
theorem back_forth {r : Str} {s : Dd Int × Wk} {m : Nat} (hr : 2 ≤ r.length) (ok : Okc r s.1 m) (hh : 0 ≤ s.2.2.2 ∧ s.2.2.2 < 4) : ∀ n, Eqs (itB r (itG r s n) n) s
  | 0 => ⟨fun _ => rfl, rfl⟩
  | n + 1 => by
    rw [itB_shift]
    obtain ⟨a, b⟩ := back_go_id hr (itG_ok hr ok n).cl (itG_h hh n)
    exact (itB_eq (s := (bkD r (itG r s (n + 1)).1 (itG r s (n + 1)).2, bkW r (itG r s (n + 1)).1 (itG r s (n + 1)).2)) (s' := itG r s n) ⟨a, b⟩ n).trans (back_forth hr ok hh n)
theorem itB_add (r : Str) (s : Dd Int × Wk) (m : Nat) : ∀ n, itB r s (m + n) = itB r (itB r s m) n
  | 0 => rfl
  | n + 1 => by
    have z := itB_add r s m n
    show (bkD r (itB r s (m + n)).1 (itB r s (m + n)).2, bkW r (itB r s (m + n)).1 (itB r s (m + n)).2) = _
    rw [z]
    rfl
def sp__law_floor (K : PySem.W.Frag) : Sp := fun vs H Q _ => ∃ (S : Sit) (p : Addr) (D : Dd Int), S.H = H ∧ Vs K S.G vs [.v (.ref p)] ∧ Dc S p D ∧ Nk D ∧ (∀ q ∈ D, 0 ≤ q.2) ∧ D.length ≤ 800000 ∧ ∀ v T, Le S T → Da K T.G v (eF (toldL D)) → Q v T.H
def ab (i : Int) : Int := if i < 0 then -i else i
def mx (i j : Int) : Int := if j > i then j else i
def Ins (wk : Wk) (fl : List Mk) : Prop := ((-100 ≤ wk.1 ∧ wk.1 ≤ 100) ∧ -100 ≤ wk.2.1 ∧ wk.2.1 ≤ 100) ∧ ∀ m ∈ fl, (-100 ≤ m.1 ∧ m.1 ≤ 100) ∧ -100 ≤ m.2.1 ∧ m.2.1 ≤ 100
def sp__law_inside (K : PySem.W.Frag) : Sp := fun vs H Q _ => ∃ (S : Sit) (wk : Wk) (fl : List Mk), S.H = H ∧ Vs K S.G vs [.d (.tuple [eW3 wk, eF fl])] ∧ fl.length ≤ 800000 ∧ ∀ b T, Le S T → (b = true → Ins wk fl) → Q (.bl b) T.H
theorem ez_maxL {K : PySem.W.Frag} {σ : L2.St} {S : Sit} {ta : TE} {ns : List Int} (ha : EvD K ta σ S (.list (ns.map PyData.int))) (h0 : 0 < ns.length) : EvZ K (tCB (rMax K) (tCons ta tNil)) σ S (fun m => m ∈ ns ∧ ∀ y ∈ ns, y ≤ m) := fun T l Q q => ha T l _ fun v U lU o => by
  obtain ⟨a, xs, rfl, e1, e2⟩ := Da.lst_eq o
  have e := DaAll.intsV e2
  subst e
  exact ⟨a, ns, rfl, SqL.of (U.sub _ _ e1), h0, fun m hm hy => q m U ⟨hm, hy⟩ lU⟩
theorem mx_le {i j k : Int} (h : mx (ab i) (ab j) ≤ k) : (-k ≤ i ∧ i ≤ k) ∧ -k ≤ j ∧ j ≤ k := by
  unfold mx ab at h
  split at h <;> split at h <;> split at h <;> omega
/-- a, b, c = _law_went(..) -/
theorem st_went {K : PySem.W.Frag} {σ : L2.St} {S : Sit} {δ : List Sl} {E : XK} {tr : TA} {X : Ends} {r : Str} {wk : Wk} {fl : List Mk} {n i j k : Nat} (hE : Sv K S.G σ δ) (ha : EvA K tr σ S [.d (.str r), .d (eW3 wk), .d (eF fl), .d (.int (n : Nat))]) (hro : ruleOk r = true) (hc : ∀ m ∈ fl, 0 ≤ m.2.2 ∧ m.2.2 < (r.length : Int)) (hl : fl.length ≤ 100000) (hn : n ≤ 100000)
    (q : ∀ p σ' T, Le S T → (∀ q o, S.H q = some o → q ≠ p) → Dc T p (itG r (marksD fl, wk) n).1 → Sv K T.G σ' (((δ.set i (.d (.list ((goWs r (marksD fl, wk) n).map eW3)))).set j (.d (.list ((goSs r (marksD fl, wk) n).map PyData.int)))).set k (.v (.ref p))) → X.nx σ' T.H) :
    tAsg (tCall (sp__law_went K) [] E tr) (gTup K 3 (gCons (gName i) (gCons (gName j) (gCons (gName k) gNil)))) X σ S.H :=
  ha S (Le.refl S) _ fun vs T l hv => by
    rw [List.append_nil]
    refine ⟨T, r, wk, fl, n, rfl, hv, hro, hc, hl, hn, fun tp v1 v2 p U lU np et d1 d2 dD => ?_⟩
    refine ⟨tp, [v1, v2, .ref p], rfl, SqT.of (U.sub _ _ et), rfl, v1, [v2, .ref p], rfl, v2, [.ref p], rfl, .ref p, [], rfl, rfl, ?_⟩
    refine q p _ U (l.trans lU) (fun x o hx => np x o (l.2.1 _ _ hx)) dD ?_
    exact Sv.set (slOk_v (K := K) (G := U.G) (.ref p)) k (Sv.set (slOk_d d2) j (Sv.set (slOk_d d1) i (hE.up (l.trans lU).g)))
theorem ev_floorC {K : PySem.W.Frag} {σ : L2.St} {S : Sit} {E : XK} {tr : TA} {p : Addr} {D : Dd Int} (ha : EvA K tr σ S [.v (.ref p)]) (hD : Dc S p D) (nk : Nk D) (hp : ∀ q ∈ D, 0 ≤ q.2) (hl : D.length ≤ 800000) : EvD K (tCall (sp__law_floor K) [] E tr) σ S (eF (toldL D)) := fun T l Q q => ha T l _ fun vs U lU hv => by
  rw [List.append_nil]
  exact ⟨U, p, D, rfl, hv, hD.up (l.trans lU), nk, hp, hl, fun v W lW o => q v W (lU.trans lW) o⟩
/-- run, back: where all is well -/
theorem ev_runs {K : PySem.W.Frag} {σ : L2.St} {S : Sit} {E : XK} {tr : TA} {it : Str → Dd Int × Wk → Nat → Dd Int × Wk} {most : Int} {r : Str} {wk : Wk} {fl : List Mk} {n : Int} (ha : EvA K tr σ S [.d (.str r), .d (eW3 wk), .d (eF fl), .d (.int n)]) (hz : Sz r (w3 wk) fl) (hb : bad4 r (w3 wk) fl n most = none) :
    EvD K (tCall (sp_runs it most K) [] E tr) σ S (eWF (it r (marksD fl, wk) n.toNat)) := fun T l Q q => ha T l _ fun vs U lU hv => by
  rw [List.append_nil]
  refine ⟨U, r, w3 wk, fl, n, rfl, hv, hz, (fun x e => by rw [hb] at e; cases e), fun _ wk' e v W lW o => ?_⟩
  have ew : wk' = wk := by
    unfold w3 at e
    simp only [List.cons.injEq, and_true] at e
    exact Prod.ext e.1.symm (Prod.ext e.2.1.symm e.2.2.symm)
  subst ew
  exact q v W (lU.trans lW) o
def sp_law (K : PySem.W.Frag) : Sp := fun vs H Q _ => ∃ (S : Sit) (a : Addr) (ns : List Int), S.H = H ∧ Vs K S.G vs [.v (.ref a)] ∧ SqL K S.G a (ns.map V.int) ∧ ∀ H', Q (.bl true) H'
theorem bad3_none {r : Str} {w : List Int} {fl : List Mk} (h : ruleOk r = true) (h2 : wOk w = true) (h3 : floorOk r.length fl = true) : bad3 r w fl = none := by unfold bad3; rw [if_neg (by rw [h]; decide), if_neg (by rw [h2]; decide), if_neg (by rw [h3]; decide)]
theorem en_rule {K : PySem.W.Frag} {t a : Addr} {σ : L2.St} {S : Sit} {E : XK} {tr : TA} {ns : List Int} {b : Nat} (ha : ∀ T, Same S.G T.G → EvA K tr σ T [.v (.ref a), .v (.ref t)]) (hs : SqL K S.G a (ns.map V.int)) :
    EvN K t (tCall (sp__law_rule K) [] E tr) σ S (b + 10) b (fun d => ∃ r, d = .str r ∧ ruleOk r = true) := fun T l ht Q q =>
  ha T l.g T (Le.refl T) _ fun vs U lU o => by
    rw [List.append_nil]
    exact ⟨U, a, t, ns, b, rfl, o, (l.g.trans lU.g).seq hs, ht.up lU, fun r v W hr lW tW oW => q _ v W ⟨r, rfl, hr⟩ (Lt.trans (lU.lm _) lW (ht.up lU).has) tW oW⟩
theorem en_state {K : PySem.W.Frag} {t a : Addr} {σ : L2.St} {S : Sit} {E : XK} {tr : TA} {ns : List Int} {r : Str} {b : Nat} (ha : ∀ T, Same S.G T.G → EvA K tr σ T [.v (.ref a), .v (.ref t), .d (.str r)]) (hs : SqL K S.G a (ns.map V.int)) (hr : ruleOk r = true) :
    EvN K t (tCall (sp__law_state K) [] E tr) σ S (b + 700) b (fun d => ∃ x y h fl, d = .tuple [eW [x, y, h], eF fl] ∧ wOk [x, y, h] = true ∧ floorOk r.length fl = true) := fun T l ht Q q =>
  ha T l.g T (Le.refl T) _ fun vs U lU o => by
    rw [List.append_nil]
    exact ⟨U, a, t, ns, r, b, rfl, o, (l.g.trans lU.g).seq hs, hr, ht.up lU, fun x y h fl v W hw hf lW tW oW => q _ v W ⟨x, y, h, fl, rfl, hw, hf⟩ (Lt.trans (lU.lm _) lW (ht.up lU).has) tW oW⟩
theorem eu_inside {K : PySem.W.Frag} {σ : L2.St} {S : Sit} {E : XK} {tr : TA} {wk : Wk} {fl : List Mk} (ha : EvA K tr σ S [.d (.tuple [eW3 wk, eF fl])]) (hl : fl.length ≤ 800000) : EvU K (tB (tCall (sp__law_inside K) [] E tr)) σ S (fun b => b = true → Ins wk fl) := fun T l Q q => ha T l _ fun vs U lU hv => by
  rw [List.append_nil]
  exact ⟨U, wk, fl, rfl, hv, hl, fun b W lW h => ⟨b, rfl, q b W h (lU.trans lW)⟩⟩
theorem eqv_WF (a b : Wk) (f g : List Mk) : PyData.eqv (.tuple [eW3 a, eF f]) (.tuple [eW3 b, eF g]) = decide (a = b ∧ f = g) := by
  show (PyData.eqv (eM a) (eM b) && (PyData.eqv (.list (f.map eM)) (.list (g.map eM)) && true)) = _
  rw [eqv_M, eqv_lists eqv_M]
  simp
theorem shp_WF (a : Wk) (f : List Mk) : Shp 3 (.tuple [eW3 a, eF f]) := shp_tup fun d hd => by
  simp at hd
  rcases hd with e | e
  · subst e; exact (shp_M a).up (by decide)
  · subst e; exact shp_map shp_M f
theorem eqv_W3 (a b : Wk) : PyData.eqv (eW3 a) (eW3 b) = decide (a = b) := eqv_M a b
theorem eqv_F (f g : List Mk) : PyData.eqv (eF f) (eF g) = decide (f = g) := eqv_lists eqv_M f g
theorem shp_W3 (a : Wk) : SeqAt.shaped (eW3 a) = true := (shp_M a).to (by decide)
theorem shp_F (f : List Mk) : SeqAt.shaped (eF f) = true := (shp_map shp_M f).to (by decide)
/-- a floor that was told has good colours -/
theorem told_cols {r : Str} {D : Dd Int} {n : Nat} (h : Okc r D n) : (∀ m ∈ toldL D, 1 ≤ m.2.2 ∧ m.2.2 < (r.length : Int)) ∧ (toldL D).length ≤ n := by
  have pm := sortM_perm ((D.filter fun q => decide (0 < q.2)).map mkOf)
  refine ⟨fun m hm => ?_, ?_⟩
  · obtain ⟨q, hq, rfl⟩ := List.mem_map.mp (pm.mem_iff.mp hm)
    obtain ⟨h1, h2⟩ := List.mem_filter.mp hq
    have := h.cl q h1
    have := of_decide_eq_true h2
    exact ⟨by show 1 ≤ q.2; omega, by show q.2 < _; omega⟩
  · have z := pm.length_eq
    rw [List.length_map] at z
    have y := List.length_filter_le (fun q : Pl × Int => decide (0 < q.2)) D
    have := h.le
    unfold toldL
    omega
/-- told, then gone on from there -/
theorem told_on {r : Str} {s : Dd Int × Wk} {m : Nat} (ok : Okc r s.1 m) : Eqs (marksD (toldL s.1), s.2) s := ⟨marks_told ok.nk fun q hq => (ok.cl q hq).1, rfl⟩
/-- what is told of equal states -/
theorem eqs_told {a b : Dd Int × Wk} (h : Eqs a b) (na : Nk a.1) (nb : Nk b.1) : eWF a = eWF b := by
  unfold eWF
  rw [h.2, told_eq na nb h.1]
theorem bad4_none {r : Str} {w : List Int} {fl : List Mk} {n most : Int} (h : ruleOk r = true) (h2 : wOk w = true) (h3 : floorOk r.length fl = true) (h4 : 0 ≤ n) (h5 : n ≤ most) : bad4 r w fl n most = none := by
  unfold bad4 bad3
  rw [if_neg (by rw [h]; decide), if_neg (by rw [h2]; decide), if_neg (by rw [h3]; decide)]
  simp [mOk, h4, h5]
theorem w3_ok {wk : Wk} (h1 : -100 ≤ wk.1 ∧ wk.1 ≤ 100) (h2 : -100 ≤ wk.2.1 ∧ wk.2.1 ≤ 100) (h3 : 0 ≤ wk.2.2 ∧ wk.2.2 < 4) : wOk (w3 wk) = true := by
  unfold wOk w3
  simp only [Bool.and_eq_true, decide_eq_true_eq]
  omega
/-- what was told may be handed in again -/
theorem told_in {r : Str} {s : Dd Int × Wk} {m : Nat} (ok : Okc r s.1 m) (hi : Ins s.2 (toldL s.1)) (hl : (toldL s.1).length ≤ 200) (hh : 0 ≤ s.2.2.2 ∧ s.2.2.2 < 4) : wOk (w3 s.2) = true ∧ floorOk r.length (toldL s.1) = true := by
  refine ⟨w3_ok hi.1.1 hi.1.2 hh, floorOk_of hl (fun x hx => ?_) (told_rise ok.nk)⟩
  have a := hi.2 x hx
  have b := (told_cols ok).1 x hx
  unfold markOk
  simp only [Bool.and_eq_true, decide_eq_true_eq]
  omega
end MW

set_option Elab.async false
set_option linter.all false
set_option maxRecDepth 100000
set_option maxHeartbeats 4000000
namespace MW
open PySem PySem.Spec PyProof.Rows L2
set_option autoImplicit false
open PySem.W (EachIs AllAlike Sortable dataLe)
/-! ### new things are told -/
def Nw (S : Sit) (p : Addr) : Prop := ∀ q o, S.H q = some o → q ≠ p
theorem Nw.none {S : Sit} {p : Addr} (h : Nw S p) : S.H p = none := none_of_np h
theorem Nw.back {S T : Sit} {p : Addr} (l : Le S T) (h : Nw T p) : Nw S p := fun q o hq => h q o (l.2.1 _ _ hq)
theorem Nw.of {S : Sit} {p : Addr} (h : S.H p = Option.none) : Nw S p := fun q o hq e => by rw [e, h] at hq; cases hq
theorem lm_leM {S T U : Sit} {M : List Addr} (a : Le S T) (b : Lm M T U) (hp : ∀ m ∈ M, S.H m = none) : Le S U := by
  refine ⟨a.1.trans b.1, fun x o h => ?_, fun x o h => (b.2.2 x o (a.2.1 x o h)).trans (a.2.2 x o h)⟩
  have np : x ∉ M := fun z => by rw [hp x z] at h; cases h
  exact b.2.1 x o np (a.2.1 x o h)
theorem Le.tM {S T U : Sit} {M : List Addr} (a : Le S T) (b : Lm M T U) (hN : ∀ x ∈ M, ∃ o, T.H x = some o) : Lm M S U := by
  have z := (a.lm []).transM b hN (fun x hx => nomatch hx)
  simpa using z
theorem Lm.tL {S T U : Sit} {M : List Addr} (a : Lm M S T) (b : Le T U) (hM : ∀ x ∈ M, ∃ o, T.H x = some o) : Lm M S U := by
  have z := a.transM (b.lm []) (fun x hx => nomatch hx) hM
  simpa using z
def NewL (K : PySem.W.Frag) (S : Sit) (ds : List PyData) (Q : VK) : Prop := ∀ p T, Le S T → Nw S p → Ow K T p ds → Q (.ref p) T.H
def NewP (K : PySem.W.Frag) (S : Sit) (d : PyData) (ds : List PyData) (Q : VK) : Prop := ∀ tp v p T, Le S T → Nw S p → T.G tp = some (.tup [v, .ref p]) → Da K T.G v d → Ow K T p ds → Q (.ref tp) T.H
section
variable {K : PySem.W.Frag} {S T : Sit} {ds : List PyData} {d : PyData} {Q : VK}
theorem NewL.of (h : ∀ v T, Le S T → Da K T.G v (.list ds) → Q v T.H) : NewL K S ds Q := fun p T l np o => by
  obtain ⟨T1, a1, a2, a3, a4⟩ := o.give
  rw [← a1]
  exact h (.ref p) T1 (l.keepG a1 a2 a4 np.none) a3
theorem NewP.of (h : ∀ v T, Le S T → Da K T.G v (.tuple [d, .list ds]) → Q v T.H) : NewP K S d ds Q := fun tp v p T l np et dv o => by
  obtain ⟨T1, a1, a2, a3, a4⟩ := o.give
  rw [← a1]
  exact h (.ref tp) T1 (l.keepG a1 a2 a4 np.none) (Da.tup (a2 _ _ et) (.cons (Da.up a2 dv) (.cons a3 .nil)))
theorem NewL.le (h : NewL K S ds Q) (l : Le S T) : NewL K T ds Q := fun p U lU np o => h p U (l.trans lU) (np.back l) o
theorem NewP.le (h : NewP K S d ds Q) (l : Le S T) : NewP K T d ds Q := fun tp v p U lU np e dv o => h tp v p U (l.trans lU) (np.back l) e dv o
end
section
variable {K : PySem.W.Frag} {σ : L2.St} {S : Sit} {δ : List Sl} {ta tb te : TE} {ds : List PyData} {d : PyData} {D : Ends}
theorem st_retF (he : EvF K te σ S ds) (k : NewL K S ds D.rt) : tRet te D σ S.H := he S (Le.refl S) _ fun p U l n o => k p U l n o
theorem st_retP (h1 : EvD K ta σ S d) (h2 : EvF K tb σ S ds) (k : NewP K S d ds D.rt) : tRet (tTup (tCons ta (tCons tb tNil))) D σ S.H := h1 S (Le.refl S) _ fun v U l o => h2 U l _ fun p W lW n ow =>
  ⟨sz (by show 2 ≤ _; decide), fun tp htp => k tp v p (W.push tp (.tup [v, .ref p]) htp) ((l.trans lW).trans (W.push_le htp)) (Nw.back l n) upd_same (Da.up (lW.trans (W.push_le htp)).g o) (ow.up (W.push_le htp))⟩
theorem evf_ev (h : EvF K te σ S ds) : EvD K te σ S (.list ds) := fun T l Q q => h T l Q fun p U lU n o => by
  obtain ⟨T1, a1, a2, a3, a4⟩ := o.give
  rw [← a1]
  exact q (.ref p) T1 (lU.keepG a1 a2 a4 (none_of_np n)) a3
theorem evf_sortD (ha : EvD K ta σ S (.list ds)) (al : AllAlike ds) (so : Sortable ds) (dp : ∀ d ∈ ds, d.depth ≤ 60) : EvF K (tCB (rSortD K) (tCons ta tNil)) σ S (srt ds) := fun T l Q q => ha T l _ fun v U lU o => by
  obtain ⟨a, xs, rfl, h1, h2⟩ := Da.lst_eq o
  refine ⟨a, xs, ds, rfl, SqL.of (U.sub _ _ h1), DaAll.dp (DaAll.up U.sub h2), al, so, dp, fun ys p hp hn => ?_⟩
  refine q p (U.pushM p (.lst ys) hn) (lU.trans (U.pushM_le hn)) (fresh_le lU hn) ⟨U.gfree hn, ys, upd_same, da_paired ?_⟩
  exact Paired.mapP hp fun y d z => da_zip h2 z
theorem evf_sortM {l : List Mk} (ha : EvD K ta σ S (.list (l.map eM))) : EvF K (tCB (rSortD K) (tCons ta tNil)) σ S ((sortM l).map eM) := by
  have h := evf_sortD ha (alike_M l) (Sortable.tuples fun m => ⟨_, _, rfl⟩) fun d hd => by
    obtain ⟨m, _, rfl⟩ := List.mem_map.mp hd
    simp [eM, PyData.depth, PyData.depthAll]
  rw [srt_M] at h
  exact h
/-- a list gathered, one's own -/
theorem evf_lc {α : Type} {xs : List α} {enc : α → PyData} {wi : TI} {g : TG} {tt : TT} {vs : List Nat} (hE : Sv K S.G σ δ) (hi : EvI K wi σ S (xs.map enc)) (tgs : α → List (Nat × PyData)) (p : α → Bool) (f : α → PyData)
    (hg : ∀ x ∈ xs, Tg K g (enc x) (tgs x)) (hv : ∀ x ∈ xs, ∀ q ∈ tgs x, q.1 ∈ vs)
    (ht : ∀ x ∈ xs, ∀ σ' T, Le S T → Sv K T.G σ' (putD (vs.foldr (fun i δ => δ.set i .non) δ) (tgs x)) → EvB K tt σ' T (p x))
    (he : ∀ x ∈ xs, p x = true → ∀ σ' T, Le S T → Sv K T.G σ' (putD (vs.foldr (fun i δ => δ.set i .non) δ) (tgs x)) → EvD K te σ' T (f x)) (hn : xs.length ≤ 900000) :
    EvF K (tLc wi g tt te vs) σ S ((xs.filter p).map f) := fun T0 a0 Q q =>
  hi T0 a0 _ fun J U l hJ X hX => by
    have lSU : Le S U := a0.trans l
    have hlen : (xs.map enc).length = xs.length := List.length_map _
    let I : Nat → Hp → Prop := fun i H => ∃ (T : Sit) (acc : List V), T.H = H ∧ Le U T ∧ T.G X = none ∧ H X = some (.lst acc) ∧ DaAll K T.G acc (((xs.take i).filter p).map f)
    refine ⟨fun i m H => m = xs.length - i ∧ i ≤ xs.length ∧ I i H, ⟨xs.length, by simp, Nat.zero_le _, U.pushM X _ hX, [], rfl, U.pushM_le hX, U.gfree hX, upd_same, .nil⟩, ?_⟩
    rintro i m H ⟨rfl, hle, T, acc, rfl, lU, gX, eX, dX⟩
    obtain ⟨j1, j2, j3⟩ := hJ T lU.g
    by_cases hlt : i < xs.length
    · have hget : (xs.map enc)[i]? = some (enc xs[i]) := by rw [List.getElem?_map, List.getElem?_eq_getElem hlt]; rfl
      have hmem : xs[i] ∈ xs := List.getElem_mem hlt
      have htake : xs.take (i + 1) = xs.take i ++ [xs[i]] := by rw [List.take_add_one, List.getElem?_eq_getElem hlt]; rfl
      refine .inr ⟨j1 i (by rw [hlen]; exact hlt), I (i + 1), fun H' hN => ⟨xs.length - (i + 1), by omega, rfl, hlt, hN⟩, fun x H' hy => ?_⟩
      obtain ⟨e, hx⟩ := j3 i _ x H' hget hy
      subst e
      refine hg _ hmem x _ T _ hx fun σ' h1 h2 => ⟨(h2 vs (hv _ hmem)).trans ?_, ?_⟩
      · have idem : ∀ (ws : List Nat) (τ : L2.St), (∀ w ∈ ws, w ∈ vs) → wipe (wipe τ ws) vs = wipe τ vs := by
          intro ws
          induction ws with
          | nil => intro τ _; rfl
          | cons w ws ih =>
            intro τ hw
            show wipe ((wipe τ ws).set w none) vs = wipe τ vs
            rw [wipe_set (hw w (by simp)), ih τ fun z hz => hw z (by simp [hz])]
        exact idem vs σ fun w hw => hw
      · have hE' : Sv K T.G σ' (putD (vs.foldr (fun i δ => δ.set i .non) δ) (tgs xs[i])) := h1 _ ((hE.up (lSU.trans lU).g).wipe vs)
        have lST : Le S T := lSU.trans lU
        refine ht _ hmem σ' T lST hE' T (Le.refl T) _ fun V lV => ?_
        have gXV : V.G X = none := (lV.2.2 X _ eX).trans gX
        have eXV : V.H X = some (.lst acc) := lV.2.1 X _ eX
        cases hp : p xs[i] with
        | false =>
          refine iteF ⟨V, acc, rfl, lU.trans lV, gXV, eXV, ?_⟩
          rw [htake, List.filter_append, List.map_append, List.filter_cons, hp]
          simpa using DaAll.up lV.g dX
        | true =>
          refine iteT (he _ hmem hp σ' V (lST.trans lV) (hE'.up lV.g) V (Le.refl V) _ fun y W lW oW => ?_)
          have gXW : W.G X = none := (lW.2.2 X _ eXV).trans gXV
          have eXW : W.H X = some (.lst acc) := lW.2.1 X _ eXV
          have lUW : Le U W := (lU.trans lV).trans lW
          have hacc : acc.length ≤ 900000 := by
            rw [dX.length, List.length_map]
            refine Nat.le_trans (List.length_filter_le _ _) ?_
            rw [List.length_take]
            exact Nat.le_trans (Nat.min_le_right _ _) hn
          refine ⟨acc, eXW, szl (by omega), W.mut X _ gXW, acc ++ [y], rfl, ⟨lUW.1, fun b o hb => ?_, lUW.2.2⟩, gXW, upd_same, ?_⟩
          · show upd W.H X _ b = some o
            have nb : b ≠ X := fun z => by rw [z, hX] at hb; cases hb
            rw [upd_ne nb]
            exact lUW.2.1 b o hb
          · rw [htake, List.filter_append, List.map_append, List.filter_cons, hp]
            exact (DaAll.up (lV.trans lW).g dX).append (.cons oW .nil)
    · have e : i = xs.length := by omega
      subst e
      refine .inl ⟨by rw [hlen] at j2; exact j2, ?_⟩
      rw [List.take_length] at dX
      exact q X T (l.trans lU) (fresh_le l hX) ⟨gX, acc, eX, dX⟩
theorem evf_lcm {α : Type} {xs : List α} {enc : α → PyData} {wi : TI} {g : TG} {vs : List Nat} (hE : Sv K S.G σ δ) (hi : EvI K wi σ S (xs.map enc)) (tgs : α → List (Nat × PyData)) (f : α → PyData)
    (hg : ∀ x ∈ xs, Tg K g (enc x) (tgs x)) (hv : ∀ x ∈ xs, ∀ q ∈ tgs x, q.1 ∈ vs)
    (he : ∀ x ∈ xs, ∀ σ' T, Le S T → Sv K T.G σ' (putD (vs.foldr (fun i δ => δ.set i .non) δ) (tgs x)) → EvD K te σ' T (f x)) (hn : xs.length ≤ 900000) :
    EvF K (tLc wi g tYes te vs) σ S (xs.map f) := by
  have h := evf_lc hE hi tgs (fun _ => true) f hg hv (fun _ _ _ _ _ _ => eb_yes) (fun x hx _ => he x hx) hn
  rw [List.filter_eq_self.mpr fun _ _ => rfl] at h
  exact h
end
/-! ### a step within an expression -/
def EvM (K : PySem.W.Frag) (te : TE) (σ : L2.St) (S : Sit) (q : Addr) (D' : Dd Int) (d : PyData) : Prop := ∀ T, Le S T → ∀ Q : VK, (∀ v U, Lm [q] T U → Dc U q D' → Da K U.G v d → Q v U.H) → te σ T.H Q
section
variable {K : PySem.W.Frag} {σ : L2.St} {S : Sit} {δ : List Sl} {ta te : TE} {tr : TA} {ds : List PyData} {d : PyData} {X : Ends} {E : XK} {q p : Addr} {D D' : Dd Int} {r : Str} {wk : Wk}
theorem evm_go (ha : EvA K tr σ S [.d (.str r), .v (.ref q), .d (eW3 wk)]) (hro : ruleOk r = true) (hD : Dc S q D) (hc : Cl r D) (hl : D.length ≤ 800000) : EvM K (tCall (sp_go K) [] E tr) σ S q (goD r D wk) (eW3 (goW r D wk)) := fun T l Q k => ha T l _ fun vs U lU o => by
  rw [List.append_nil]
  exact ⟨U, r, q, D, wk, rfl, o, hro, hD.up (l.trans lU), hc, hl, fun v W lW dW oW => k v W (lU.tM lW fun x hx => by simp at hx; subst hx; exact (hD.up (l.trans lU)).has) dW oW⟩
theorem evm_back (ha : EvA K tr σ S [.d (.str r), .v (.ref q), .d (eW3 wk)]) (hro : ruleOk r = true) (hD : Dc S q D) (hc : Cl r D) (hl : D.length ≤ 800000) (hh : 0 ≤ wk.2.2 ∧ wk.2.2 < 4) : EvM K (tCall (sp_go_back K) [] E tr) σ S q (bkD r D wk) (eW3 (bkW r D wk)) := fun T l Q k => ha T l _ fun vs U lU o => by
  rw [List.append_nil]
  exact ⟨U, r, q, D, wk, rfl, o, hro, hD.up (l.trans lU), hc, hl, hh, fun v W lW dW oW => k v W (lU.tM lW fun x hx => by simp at hx; subst hx; exact (hD.up (l.trans lU)).has) dW oW⟩
theorem st_asgM {i : Nat} (hE : Sv K S.G σ δ) (he : EvM K te σ S q D' d) (k : ∀ σ' T, Lm [q] S T → Dc T q D' → Sv K T.G σ' (δ.set i (.d d)) → X.nx σ' T.H) : tAsg te (gName i) X σ S.H :=
  he S (Le.refl S) _ fun v U l dU o => k _ U l dU (Sv.set (slOk_d o) i (hE.up l.g))
theorem st_appM (ha : Ev K ta σ S (.v (.ref p))) (hp : Ow K S p ds) (hpq : p ≠ q) (hq : ∃ o, S.H q = some o) (hl : ds.length < 900000) (he : EvM K te σ S q D' d) (k : ∀ T, Lm [q, p] S T → Dc T q D' → Ow K T p (ds ++ [d]) → X.nx σ T.H) :
    tDrop (tBM K "list" rAppend ta (tCons te tNil)) X σ S.H := ha S (Le.refl S) _ fun v U l o => by
  cases (show some v = some (V.ref p) from o)
  obtain ⟨_, ys, e0, _⟩ := hp.up l
  refine ⟨.inl ⟨rfl, _, SqL.of e0⟩, he U l _ fun y W lW dW oW => ?_⟩
  obtain ⟨oq, eq⟩ := hq
  have oW' := (hp.up l).lm lW (by simp [hpq])
  obtain ⟨xs, e1, e2, g, e3, e4⟩ := oW'.put oW hl
  have lt : Lm [q] S W := l.tM lW fun x hx => by simp at hx; subst hx; exact ⟨_, l.2.1 _ _ eq⟩
  refine ⟨p, xs, y, rfl, rfl, e1, e2, k _ ?_ ?_ e4⟩
  · exact lt.transM e3 (fun x hx => by simp at hx; subst hx; exact ⟨_, e1⟩) (fun x hx => by simp at hx; subst hx; exact dW.has)
  · exact dW.lm e3 (by simp [Ne.symm hpq])
end
/-! ### asked with a rule, a walker, a floor, a number -/
abbrev Ans := PySem.W.Frag → Str → List Mk → Wk → Nat → Sit → VK → Prop
def ansD (g : Str → List Mk → Wk → Nat → PyData) : Ans := fun K r fl wk n S Q => ∀ v T, Le S T → Da K T.G v (g r fl wk n) → Q v T.H
def ansL (g : Str → List Mk → Wk → Nat → List PyData) : Ans := fun K r fl wk n S Q => NewL K S (g r fl wk n) Q
def ansP (it : Str → Dd Int × Wk → Nat → Dd Int × Wk) : Ans := fun K r fl wk n S Q => NewP K S (eW3 (it r (marksD fl, wk) n).2) ((toldL (it r (marksD fl, wk) n).1).map eM) Q
def sp_ask (most : Int) (F : Ans) (K : PySem.W.Frag) : Sp := fun vs H Q E => ∃ (S : Sit) (r : Str) (wl : List Int) (fl : List Mk) (n : Int), S.H = H ∧ Vs K S.G vs [.d (.str r), .d (eW wl), .d (eF fl), .d (.int n)] ∧ Sz r wl fl ∧
  (∀ x, bad4 r wl fl n most = some x → ∀ T, Le S T → E (.ref (cE K x)) none T.H) ∧ (bad4 r wl fl n most = none → ∀ wk, wl = w3 wk → F K r fl wk n.toNat S Q)
theorem w3_inj {a b : Wk} (e : w3 a = w3 b) : a = b := by
  unfold w3 at e
  simp only [List.cons.injEq, and_true] at e
  exact Prod.ext e.1 (Prod.ext e.2.1 e.2.2)
/-- what is told, as data -/
def AnsIs (F : Ans) (g : Str → List Mk → Wk → Nat → PyData) : Prop := ∀ K r fl wk n S Q, (∀ v T, Le S T → Da K T.G v (g r fl wk n) → Q v T.H) → F K r fl wk n S Q
theorem ansD_is (g : Str → List Mk → Wk → Nat → PyData) : AnsIs (ansD g) g := fun _ _ _ _ _ _ _ h => h
theorem ansL_is (g : Str → List Mk → Wk → Nat → List PyData) : AnsIs (ansL g) (fun r fl wk n => .list (g r fl wk n)) := fun _ _ _ _ _ _ _ h => NewL.of h
theorem ansP_is (it : Str → Dd Int × Wk → Nat → Dd Int × Wk) : AnsIs (ansP it) (fun r fl wk n => eWF (it r (marksD fl, wk) n)) := fun _ _ _ _ _ _ _ h => NewP.of h
section
variable {K : PySem.W.Frag} {σ : L2.St} {S : Sit} {E : XK} {tr : TA} {F : Ans} {g : Str → List Mk → Wk → Nat → PyData} {most : Int} {r : Str} {wk : Wk} {fl : List Mk} {n : Int}
theorem ev_ask (hF : AnsIs F g) (ha : EvA K tr σ S [.d (.str r), .d (eW3 wk), .d (eF fl), .d (.int n)]) (hz : Sz r (w3 wk) fl) (hb : bad4 r (w3 wk) fl n most = none) :
    EvD K (tCall (sp_ask most F K) [] E tr) σ S (g r fl wk n.toNat) := fun T l Q q => ha T l _ fun vs U lU hv => by
  rw [List.append_nil]
  refine ⟨U, r, w3 wk, fl, n, rfl, hv, hz, (fun x e => by rw [hb] at e; cases e), fun _ wk' e => ?_⟩
  cases w3_inj e
  exact hF K r fl wk n.toNat U Q fun v W lW o => q v W (lU.trans lW) o
end
theorem tc_ask {K : PySem.W.Frag} {σ : L2.St} {S : Sit} {E : XK} {tr : TA} {F : Ans} {most : Int} {r : Str} {wl : List Int} {fl : List Mk} {n : Int} {x : Str} (ha : EvA K tr σ S [.d (.str r), .d (eW wl), .d (eF fl), .d (.int n)]) (hz : Sz r wl fl) (hb : bad4 r wl fl n most = some x) (k : ∀ T, Le S T → E (.ref (cE K x)) none T.H) (Q : VK) : tCall (sp_ask most F K) [] E tr σ S.H Q :=
  ha S (Le.refl S) _ fun vs T l hv => by
    rw [List.append_nil]
    exact ⟨T, r, wl, fl, n, rfl, hv, hz, (fun y e U lU => by rw [hb] at e; cases e; exact k U (l.trans lU)), fun e => by rw [hb] at e; cases e⟩
/-! ### found, or refused -/
theorem te_if {K : PySem.W.Frag} {σ : L2.St} {S : Sit} {tt : TT} {ta tb : TE} {Q : VK} {c : Bool} (hc : EvB K tt σ S c) (h1 : c = true → ∀ T, Le S T → ta σ T.H Q) (h2 : c = false → ∀ T, Le S T → tb σ T.H Q) : tIf tt ta tb σ S.H Q :=
  hc S (Le.refl S) _ fun U lU => by
    cases c with
    | true => exact iteT (h1 rfl U lU)
    | false => exact iteF (h2 rfl U lU)
theorem te_callS {K : PySem.W.Frag} {σ : L2.St} {S : Sit} {sp : Sp} {E : L2.St → XK} {tr : TA} {ss : List Sl} {Q : VK} (ha : EvA K tr σ S ss) (k : ∀ vs T, Le S T → Vs K T.G vs ss → sp vs T.H Q (E σ)) : tCallS sp E tr σ S.H Q :=
  ha S (Le.refl S) _ fun vs T l o => k vs T l o
abbrev tTold (K : PySem.W.Frag) (E : XK) (i j : Nat) : TS := tRet (tIf (tTest (tOp (fun x y H Q => y = V.non ∧ Q (.bl (decide (x = .non))) H) (tVar i) (tC .non))) (tVar j) (tCall (sp__law_refusal K) [] E (tCons (tVar i) tNil)))
section
variable {K : PySem.W.Frag} {σ : L2.St} {S : Sit} {δ : List Sl} {E : XK} {D D' : Ends} {i j m : Nat} {x : Str} {d : PyData}
theorem told_ok (hE : Sv K S.G σ δ) (hi : δ[i]? = some (.d .none)) (hj : δ[j]? = some (.d d)) (k : ∀ v T, Le S T → Da K T.G v d → D.rt v T.H) : tTold K E i j D σ S.H := by
  unfold tTold tRet
  refine te_if (K := K) (c := true) (eb_test (ev_is (ev_isN (ev_var hE hi)) rfl)) (fun _ T l => ?_) (fun e => nomatch e)
  exact ev_var (hE.up l.g) hj T (Le.refl T) _ fun v U lU o => k v U (l.trans lU) o
theorem told_bad {s0 s1 : Sl} (hE : Sv K S.G σ δ) (hm : δ[m]? = some s0) (hi : δ[i]? = some s1) (him : i ≠ m) (hx : x ∈ kinds5) (hme : PySem.W.exmOne K (.ref (He.ga K x)) (.ref (He.ga K "MarkError")) = some true) (hD : D'.nx = tTold K E i j D) (k : ∀ v T, Le S T → Da K T.G v (eRef x) → D.rt v T.H) :
    WE (wKeep K (.ref (cE K "MarkError")) m (tAsg (tVar m) (gName i)) D') σ (.ref (cE K x)) none S.H := by
  refine we_keep (S := S) hE hm hme fun a σ5 T5 l5 hX hE5 => ?_
  have hg : (((δ.set m (Sl.v (.ref a))).set i (.v (.ref a))).set m .non)[i]? = some (.v (.ref a)) := by
    obtain ⟨h, _⟩ := List.getElem?_eq_some_iff.mp hi
    rw [List.getElem?_set_ne (Ne.symm him), List.getElem?_set_self (by simpa using h)]
  rw [hD]
  unfold tTold tRet
  refine te_if (K := K) (c := false) (eb_test (ev_is (ev_isNv (v := .ref a) (ev_varv hE5 hg)) rfl)) (fun e => nomatch e) (fun _ T6 l6 => ?_)
  refine (ea_cons (ev_varv (v := .ref a) (hE5.up l6.g) hg) ea_nil) T6 (Le.refl T6) _ fun vs T7 l7 hv7 => ?_
  rw [List.append_nil]
  exact ⟨T7, a, x, rfl, hv7, (l6.trans l7).2.1 _ _ hX, hx, fun v T8 l8 o => k v T8 (((l5.trans l6).trans l7).trans l8) o⟩
end
theorem told_leaf {K : PySem.W.Frag} {σ : L2.St} {S : Sit} {δ : List Sl} {E : XK} {D D' : Ends} {i j m : Nat} {F : Ans} {g : Str → List Mk → Wk → Nat → PyData} {most : Int} {tr : TA} {r : Str} {wk : Wk} {fl : List Mk} {n : Int} {s0 s1 : Sl} (hF : AnsIs F g) (hE : Sv K S.G σ δ) (ha : EvA K tr σ S [.d (.str r), .d (eW3 wk), .d (eF fl), .d (.int n)]) (hz : Sz r (w3 wk) fl) (hb3 : bad3 r (w3 wk) fl = none)
    (hme : PySem.W.exmOne K (.ref (He.ga K "BadNumber")) (.ref (He.ga K "MarkError")) = some true) (hm : δ[m]? = some s0) (hi : δ[i]? = some (.d .none)) (hj : δ[j]? = some s1) (him : i ≠ m) (hij : j ≠ i) (hD : D'.nx = tTold K E i j D)
    (k : ∀ v T, Le S T → Da K T.G v (if mOk n most = true then g r fl wk n.toNat else eRef "BadNumber") → D.rt v T.H) :
    tCallS (sp_ask most F K) (WE (wKeep K (.ref (cE K "MarkError")) m (tAsg (tVar m) (gName i)) D')) tr σ S.H (fun v H1 => D'.nx (σ.set j (some v)) H1) :=
  ha S (Le.refl S) _ fun vs T l hv => by
    refine ⟨T, r, w3 wk, fl, n, rfl, hv, hz, fun x e U lU => ?_, fun e wk' ew => ?_⟩
    · have hx : mOk n most = false ∧ x = "BadNumber" := by
        unfold bad4 at e
        rw [hb3] at e
        by_cases c : mOk n most = false
        · rw [c] at e
          simp at e
          exact ⟨c, e.symm⟩
        · simp [c] at e
      obtain ⟨c, rfl⟩ := hx
      refine told_bad (S := U) (hE.up (l.trans lU).g) hm hi him (by decide) hme hD fun v W lW o => k v W ((l.trans lU).trans lW) ?_
      rw [if_neg (by rw [c]; decide)]
      exact o
    · cases w3_inj ew
      have c : mOk n most = true := by
        unfold bad4 at e
        rw [hb3] at e
        by_cases c : mOk n most = false
        · rw [c] at e
          simp at e
        · simpa using c
      refine hF K r fl wk n.toNat T _ fun v U lU o => ?_
      rw [hD]
      have hl := (List.getElem?_eq_some_iff.mp hj).1
      refine told_ok (Sv.set (slOk_d o) j (hE.up (l.trans lU).g)) (by rw [List.getElem?_set_ne hij]; exact hi) (List.getElem?_set_self hl) fun v' W lW o' => k v' W ((l.trans lU).trans lW) ?_
      rw [if_pos c]
      exact o'
/-! ### least and greatest -/
def maxL (ns : List Int) : Int := ns.foldl max (ns.headD 0)
def minL (ns : List Int) : Int := ns.foldl min (ns.headD 0)
theorem foldl_max_ge : ∀ (l : List Int) (a : Int), a ≤ l.foldl max a ∧ (∀ y ∈ l, y ≤ l.foldl max a) ∧ (l.foldl max a = a ∨ l.foldl max a ∈ l)
  | [], a => ⟨Int.le_refl _, (fun _ h => nomatch h), .inl rfl⟩
  | x :: l, a => by
    obtain ⟨h1, h2, h3⟩ := foldl_max_ge l (max a x)
    rw [List.foldl_cons]
    refine ⟨by omega, fun y hy => ?_, ?_⟩
    · rcases List.mem_cons.mp hy with rfl | hy
      · omega
      · exact h2 y hy
    · rcases h3 with h3 | h3
      · by_cases c : a ≤ x
        · right; rw [h3, Int.max_eq_right c]; simp
        · left; rw [h3]; omega
      · right; exact List.mem_cons_of_mem _ h3
theorem foldl_min_le : ∀ (l : List Int) (a : Int), l.foldl min a ≤ a ∧ (∀ y ∈ l, l.foldl min a ≤ y) ∧ (l.foldl min a = a ∨ l.foldl min a ∈ l)
  | [], a => ⟨Int.le_refl _, (fun _ h => nomatch h), .inl rfl⟩
  | x :: l, a => by
    obtain ⟨h1, h2, h3⟩ := foldl_min_le l (min a x)
    rw [List.foldl_cons]
    refine ⟨by omega, fun y hy => ?_, ?_⟩
    · rcases List.mem_cons.mp hy with rfl | hy
      · omega
      · exact h2 y hy
    · rcases h3 with h3 | h3
      · by_cases c : x ≤ a
        · right; rw [h3, Int.min_eq_right c]; simp
        · left; rw [h3]; omega
      · right; exact List.mem_cons_of_mem _ h3
theorem maxL_is {ns : List Int} {m : Int} (hm : m ∈ ns) (h : ∀ y ∈ ns, y ≤ m) : maxL ns = m := by
  unfold maxL
  cases ns with
  | nil => cases hm
  | cons x l =>
    obtain ⟨h1, h2, h3⟩ := foldl_max_ge (x :: l) x
    have h4 : (x :: l).foldl max x ∈ x :: l := by
      rcases h3 with h3 | h3
      · rw [h3]; simp
      · exact h3
    have a := h2 m hm
    have b := h _ h4
    show (x :: l).foldl max x = m
    omega
theorem minL_is {ns : List Int} {m : Int} (hm : m ∈ ns) (h : ∀ y ∈ ns, m ≤ y) : minL ns = m := by
  unfold minL
  cases ns with
  | nil => cases hm
  | cons x l =>
    obtain ⟨h1, h2, h3⟩ := foldl_min_le (x :: l) x
    have h4 : (x :: l).foldl min x ∈ x :: l := by
      rcases h3 with h3 | h3
      · rw [h3]; simp
      · exact h3
    have a := h2 m hm
    have b := h _ h4
    show (x :: l).foldl min x = m
    omega
section
variable {K : PySem.W.Frag} {σ : L2.St} {S : Sit} {ta : TE} {ns : List Int}
theorem ev_maxL (ha : EvD K ta σ S (.list (ns.map PyData.int))) (h0 : 0 < ns.length) : EvD K (tCB (rMax K) (tCons ta tNil)) σ S (.int (maxL ns)) := ev_cb1 ha fun T x l hx Q q => by
  obtain ⟨a, xs, rfl, e1, e2⟩ := Da.lst_eq hx
  have e := DaAll.intsV e2
  subst e
  refine ⟨a, ns, rfl, SqL.of (T.sub _ _ e1), h0, fun m hm hy => ?_⟩
  rw [← maxL_is hm hy]
  exact q _ T (Le.refl T) (Da.int _)
theorem ev_minL (ha : EvD K ta σ S (.list (ns.map PyData.int))) (h0 : 0 < ns.length) : EvD K (tCB (rMin K) (tCons ta tNil)) σ S (.int (minL ns)) := ev_cb1 ha fun T x l hx Q q => by
  obtain ⟨a, xs, rfl, e1, e2⟩ := Da.lst_eq hx
  have e := DaAll.intsV e2
  subst e
  refine ⟨a, ns, rfl, SqL.of (T.sub _ _ e1), h0, fun m hm hy => ?_⟩
  rw [← minL_is hm hy]
  exact q _ T (Le.refl T) (Da.int _)
end
end MW

set_option Elab.async false
set_option linter.all false
set_option maxRecDepth 100000
set_option maxHeartbeats 4000000
namespace MW
open PySem PySem.Spec PyProof.Rows L2
set_option autoImplicit false
def sp_toldN (K : PySem.W.Frag) : Sp := fun vs H Q _ => ∃ (S : Sit) (p : Addr) (D : Dd Int), S.H = H ∧ Vs K S.G vs [.v (.ref p)] ∧ Dc S p D ∧ Nk D ∧ D.length ≤ 800000 ∧ NewL K S ((toldL D).map eM) Q
def strI (i : Int) : Str := toString i
def plW (w : Wk) : Pl := (w.1, w.2.1)
def pathD (r : Str) (fl : List Mk) (wk : Wk) (n : Nat) : List PyData := (goWs r (marksD fl, wk) n).map eW3
def readS (r : Str) (fl : List Mk) (wk : Wk) (n : Nat) : Str := Txt.join "" ((goSs r (marksD fl, wk) n).map strI)
def readD (r : Str) (fl : List Mk) (wk : Wk) (n : Nat) : PyData := .str (readS r fl wk n)
def cntP (ps : List Pl) : Dd Int := ps.foldl (fun D p => dput D p (at0 D p + 1)) []
def seenL (ps : List Pl) : List PyData := (sd ((cntP ps).map (·.1))).map fun p => .tuple [eP p, .int (at0 (cntP ps) p)]
def seenD (r : Str) (fl : List Mk) (wk : Wk) (n : Nat) : List PyData := seenL ((goWs r (marksD fl, wk) n).dropLast.map plW)
def boxW (ws : List Wk) : PyData := .tuple [.int (minL (ws.map fun w => w.1)), .int (minL (ws.map fun w => w.2.1)), .int (maxL (ws.map fun w => w.1)), .int (maxL (ws.map fun w => w.2.1))]
def boxD (r : Str) (fl : List Mk) (wk : Wk) (n : Nat) : PyData := boxW (goWs r (marksD fl, wk) n)
def cntM (n : Nat) (fl : List Mk) : List PyData := (List.range (n - 1)).map fun k => .int ((fl.filter fun m => decide (m.2.2 = 1 + ((k : Nat) : Int))).length : Nat)
def cntD (r : Str) (fl : List Mk) (wk : Wk) (n : Nat) : List PyData := cntM r.length (toldL (itG r (marksD fl, wk) n).1)
section
variable {K : PySem.W.Frag} {σ : L2.St} {S : Sit} {E : XK} {tr : TA} {p : Addr} {D : Dd Int}
theorem evf_told (ha : EvA K tr σ S [.v (.ref p)]) (hD : Dc S p D) (nk : Nk D) (hl : D.length ≤ 800000) : EvF K (tCall (sp_toldN K) [] E tr) σ S ((toldL D).map eM) := fun T l Q q => ha T l _ fun vs U lU hv => by
  rw [List.append_nil]
  exact ⟨U, p, D, rfl, hv, hD.up (l.trans lU), nk, hl, fun r W lW n o => q r W (lU.trans lW) (Nw.back lU n) o⟩
theorem goWs_len (r : Str) (s : Dd Int × Wk) (n : Nat) : (goWs r s n).length = n + 1 := by unfold goWs; simp
theorem goSs_len (r : Str) (s : Dd Int × Wk) (n : Nat) : (goSs r s n).length = n := by unfold goSs; simp
theorem cut_init (xs : List PyData) : cutD xs none (some (-1)) = xs.dropLast := by
  unfold cutD HT.sIx
  simp only [List.drop_zero, Nat.sub_zero]
  rw [List.dropLast_eq_take]
  congr 1
  rw [if_pos (by decide)]
  omega
theorem toNat_small {c : Int} (h : 0 ≤ c ∧ c < 5) : c.natAbs < 2 ^ 64 := by omega
/-- digits' lengths -/
theorem strI_len {c : Int} (h : 0 ≤ c ∧ c < 5) : (strI c).length = 1 := by
  have : c = 0 ∨ c = 1 ∨ c = 2 ∨ c = 3 ∨ c = 4 := by omega
  rcases this with rfl | rfl | rfl | rfl | rfl <;> decide +kernel
theorem sum_lens {l : List Int} (h : ∀ c ∈ l, 0 ≤ c ∧ c < 5) : (((l.map strI).map (·.length)).sum : Nat) = l.length := by
  induction l with
  | nil => rfl
  | cons c l ih =>
    rw [List.map_cons, List.map_cons, List.sum_cons, ih fun x hx => h x (by simp [hx]), strI_len (h c (by simp)), List.length_cons]
    omega
theorem cntP_ok : ∀ (ps : List Pl), Nk (cntP ps) ∧ (cntP ps).length ≤ ps.length := by
  intro ps
  have key : ∀ (ps : List Pl) (D : Dd Int), Nk D → Nk (ps.foldl (fun D p => dput D p (at0 D p + 1)) D) ∧ (ps.foldl (fun D p => dput D p (at0 D p + 1)) D).length ≤ D.length + ps.length := by
    intro ps
    induction ps with
    | nil => intro D h; exact ⟨h, Nat.le_refl _⟩
    | cons p ps ih =>
      intro D h
      obtain ⟨a, b⟩ := ih _ (h.put p (at0 D p + 1))
      have := dput_len D p (at0 D p + 1)
      refine ⟨a, ?_⟩
      rw [List.foldl_cons, List.length_cons]
      omega
  have z := key ps [] List.nodup_nil
  simpa [cntP] using z
theorem cntP_app (ps : List Pl) (p : Pl) : cntP (ps ++ [p]) = dput (cntP ps) p (at0 (cntP ps) p + 1) := by
  unfold cntP
  rw [List.foldl_append]
  rfl
theorem dget_at {D : Dd Int} (nk : Nk D) {p : Pl} (h : p ∈ D.map (·.1)) : dget D p = some (at0 D p) := by
  obtain ⟨q, hq, rfl⟩ := List.mem_map.mp h
  have z := dget_of nk hq
  unfold at0
  rw [z]
  rfl
end
end MW
namespace MW
open PySem PySem.Spec PyProof.Rows L2
theorem bad4_3 {r : Str} {w : List Int} {fl : List Mk} {n most : Int} (h : bad4 r w fl n most = none) : bad3 r w fl = none ∧ 0 ≤ n ∧ n ≤ most := by
  unfold bad4 at h
  cases e : bad3 r w fl with
  | some x => rw [e] at h; cases h
  | none =>
    rw [e] at h
    refine ⟨rfl, ?_⟩
    by_cases m : mOk n most = false
    · simp [m] at h
    · unfold mOk at m
      simp only [Bool.and_eq_false_imp, decide_eq_true_eq, decide_eq_false_iff_not, Classical.not_imp] at m
      omega
theorem ins_len (p : Pl) : ∀ l : List Pl, (ins p l).length ≤ l.length + 1
  | [] => Nat.le_refl _
  | q :: r => by
    unfold ins
    split
    · simp
    · split
      · simp
      · have := ins_len p r
        simp only [List.length_cons]
        omega
theorem sd_len : ∀ l : List Pl, (sd l).length ≤ l.length
  | [] => Nat.le_refl _
  | p :: r => by
    have := sd_len r
    have := ins_len p (sd r)
    show (ins p (sd r)).length ≤ _
    rw [List.length_cons]
    omega
theorem ei_is {K : PySem.W.Frag} {wi : TI} {σ : L2.St} {S : Sit} {ds es : List PyData} (h : EvI K wi σ S ds) (e : ds = es) : EvI K wi σ S es := e ▸ h
end MW

set_option Elab.async false
set_option linter.all false
set_option maxRecDepth 100000
set_option maxHeartbeats 4000000
namespace MW
open PySem PySem.Spec PyProof.Rows L2
def top (i : Nat) : Stmt := PySem.Challenge.pw_markwalkers_k40_whole_texts.main.body.getD i (.Pass ⟨0, 0, 0, 0⟩)
/-- what the top has left -/
structure Tx (K : PySem.W.Frag) (mg : Str → Option Value) : Prop where
  len : mg "len" = none
  all : mg "all" = none
  any : mg "any" = none
  sorted : mg "sorted" = none
  set : mg "set" = none
  range : mg "range" = none
  list : mg "list" = none
  tuple : mg "tuple" = none
  min : mg "min" = none
  max : mg "max" = none
  str : mg "str" = none
  int : mg "int" = none
  isinstance : mg "isinstance" = none
  dict : mg "dict" = none
  abs : mg "abs" = none
  ValueError : mg "ValueError" = none
  bool : mg "bool" = none
  SIGNS : ∃ t, mg "SIGNS" = some (.str "LNRU" t)
  FAR : ∃ t, mg "FAR" = some (.int 100 t)
  MOST_MARKS : ∃ t, mg "MOST_MARKS" = some (.int 200 t)
  HEADINGS : ∃ t, mg "HEADINGS" = some (.str "^>v<" t)
  FIGURES : ∃ t, mg "FIGURES" = some (.str "0123456789" t)
  MarkError : Xc K mg "MarkError" (cE K "MarkError")
  BadRule : Xc K mg "BadRule" (cE K "BadRule")
  BadFloor : Xc K mg "BadFloor" (cE K "BadFloor")
  BadWalker : Xc K mg "BadWalker" (cE K "BadWalker")
  BadNumber : Xc K mg "BadNumber" (cE K "BadNumber")
  BadText : Xc K mg "BadText" (cE K "BadText")
  kits : Kits K
local macro_rules | `(tactic| walk_at "ev") => `(tactic| first
  | (refine ev_var (by assumption) ?_; rfl)
  | (refine ev_varv (by assumption) ?_; rfl)
  | exact ev_ci
  | exact ev_cs
  | exact ev_cb
  | exact ev_cn
  | exact eb_yes
  | exact ea_nil
  | exact ea_d0
  | exact eo_none
  | (apply ea_cons <;> walk_at "ev")
  | (apply eo_some <;> walk_at "ev")
  | (apply ev_I0 <;> walk_at "ev")
  | (apply ev_B0 <;> walk_at "ev")
  | (apply ev_chain <;> walk_at "ev")
  | (apply ev_neg <;> walk_at "ev")
  | (apply ev_lenL <;> walk_at "ev")
  | (apply ev_lenT <;> walk_at "ev")
  | (apply eb_test <;> walk_at "ev")
  | (apply eb_B <;> walk_at "ev")
  | (apply eb_not <;> walk_at "ev")
  | (apply ev_notV <;> walk_at "ev")
  | (apply ev_tup <;> walk_at "ev")
  | (apply ea_ds <;> walk_at "ev")
  | (apply ev_ixT <;> walk_at "ev")
  | (apply ev_ixL <;> walk_at "ev")
  | (apply ev_eqD <;> walk_at "ev")
  | (apply ev_neD <;> walk_at "ev")
  | (apply ev_inS <;> walk_at "ev")
  | (apply ev_isN <;> walk_at "ev")
  | (apply ev_notN <;> walk_at "ev")
  | (apply ev_andV <;> walk_at "ev")
  | (apply ev_orV <;> walk_at "ev")
  | (apply eb_and <;> walk_at "ev")
  | (apply eb_or <;> walk_at "ev")
  | (apply ev_I <;> walk_at "ev")
  | (apply ev_lenS <;> walk_at "ev")
  | (apply ev_all <;> walk_at "ev")
  | (apply ev_any <;> walk_at "ev")
  | (intro _; walk_at "ev")
  | rfl
  | (with_reducible assumption)
  | decide
  | omega)
theorem sc_look_rule : FnScope ["rule", "sign"] ["rule"] (defScope (top 11)) := ⟨rfl, rfl, rfl, by decide +kernel, rfl, by decide +kernel, by decide +kernel⟩
theorem sc_look_walker : FnScope ["walker", "good"] ["walker"] (defScope (top 12)) := ⟨rfl, rfl, rfl, by decide +kernel, rfl, by decide +kernel, by decide +kernel⟩
section
variable {P : Program} {w : World} {K : PySem.W.Frag} {mg : Str → Option Value} {base : Heap}
theorem k_look_walker (T : Tx K mg) (D : Def K mg "look_walker" (top 12)) : FnK P w K mg base 1 "look_walker" ["walker"] (sp_look_walker K) := by
  refine fn_mk D sc_look_walker (fun vs H Q E h => ?_) (fun _ _ _ _ _ _ us hl => match us, hl with | [_], _ => rfl) (fun f cdv A outer s H vs Q E hr h => ?_)
  · obtain ⟨S, w, rfl, hv, _⟩ := h
    exact hv.len
  obtain ⟨S, w, rfl, hv, hl, h1, h2⟩ := h
  refine ⟨_, (pss_cons (ps_set (i := 1) sc_look_walker.nd rfl (Or.inl rfl) (pe_and (pe_cmpR (kr_eqD (K := K) hr.units) (pe_callB (kr_len (K := K)) (by rfl) T.len (by decide +kernel) (pa_cons (pv 0) pa_nil)) pe_int (nomark _)) (pe_and (pe_chain op_le op_le (pe_op op_sub pe_int (pe_kint T.FAR)) (pe_ix (kx_tup (K := K)) (pv 0) pe_int (fun _ _ => rfl)) (pe_kint T.FAR)) (pe_one (pe_chain op_le op_le (pe_op op_sub pe_int (pe_kint T.FAR)) (pe_ix (kx_tup (K := K)) (pv 0) pe_int (fun _ _ => rfl)) (pe_kint T.FAR))))))
      (pss_one (ps_if (PW.pt (pw_or (pt_not (pt_val (pv 1))) (pw_or1 (pt_not (pt_chain op_le op_le pe_int (pe_ix (kx_tup (K := K)) (pv 0) pe_int (fun _ _ => rfl)) pe_int))))) (pss_one (ps_rz T.BadWalker rfl rfl rfl rfl rfl)) pss_nil))), ?_⟩
  have hE := Sv.start (N := ["walker", "good"]) hv rfl
  by_cases h3 : ∃ x y z, w = [x, y, z]
  · obtain ⟨x, y, z, rfl⟩ := h3
    apply st_asg hE
    case he => walk_at "ev"
    case k =>
      intro σ1 T1 l1 hE1
      dsimp only
      apply st_if (K := K)
      case hb => walk_at "ev"
      case h1 => exact fun e T l => h2 (by simp [wOk, PyData.eqv] at e ⊢; omega) T (l1.trans l)
      case h2 => exact fun e T l => h1 (by simp [wOk, PyData.eqv] at e ⊢; omega) T (l1.trans l)
  · have n3 : ¬ w.length = 3 := fun e => h3 (match w, e with | [x, y, z], _ => ⟨x, y, z, rfl⟩)
    have e0 : wOk w = false := by
      unfold wOk
      split
      · exact absurd ⟨_, _, _, rfl⟩ h3
      · rfl
    have e1 : PyData.eqv (.int (((w.map PyData.int).length : Nat) : Int)) (.int 3) = false := by
      simp [PyData.eqv]; omega
    apply st_asg hE
    case he =>
      apply ev_andV (b := false)
      · walk_at "ev"
      · intro e
        rw [e1] at e
        cases e
    case k =>
      intro σ1 T1 l1 hE1
      rw [e1] at hE1
      dsimp only
      apply st_if (K := K) (b := true)
      case hb =>
        apply eb_or (a := true) (b := false)
        · exact eb_not (b := false) (by walk_at "ev")
        · intro e
          cases e
      case h1 => exact fun e T l => h2 e0 T (l1.trans l)
      case h2 => exact fun e T l => nomatch e
theorem k_look_rule (T : Tx K mg) (D : Def K mg "look_rule" (top 11)) : FnK P w K mg base 1 "look_rule" ["rule"] (sp_look_rule K) := by
  refine fn_mk D sc_look_rule (fun vs H Q E h => ?_) (fun _ _ _ _ _ _ us hl => match us, hl with | [_], _ => rfl) (fun f cdv A outer s H vs Q E hr h => ?_)
  · obtain ⟨S, r, rfl, hv, _⟩ := h
    exact hv.len
  obtain ⟨S, r, rfl, hv, hl, h1, h2⟩ := h
  refine ⟨_, (pss_one (ps_if (PW.pt (pw_or (pt_not (pt_chain op_le op_le pe_int (pe_callB (kr_len (K := K)) (by rfl) T.len (by decide +kernel) (pa_cons (pv 0) pa_nil)) pe_int)) (pw_or1 (pt_not (pt_val (pe_callB (kr_all (K := K) rfl) (by rfl) T.all (by decide +kernel) (pa_cons (pe_lc (own := [("sign", 1)]) rfl sc_look_rule.nd (pi_str (pv 0)) (blkOk_by (N := ["rule", "sign"]) (sc := defScope (top 11)) (by decide +kernel)) (fun _ _ _ _ _ => (pg_name (i := 1) sc_look_rule.nd rfl (Or.inl rfl))) (fun _ _ _ _ _ => pts_nil) (fun _ _ _ _ _ => (pe_cmpR op_in_sign (pv 1) (pe_kstr T.SIGNS) (by rfl)))) pa_nil))))))) (pss_one (ps_rz T.BadRule rfl rfl rfl rfl rfl)) pss_nil)), ?_⟩
  have hE := Sv.start (N := ["rule", "sign"]) hv rfl
  apply st_if (K := K) (b := !ruleOk r)
  case hb =>
    unfold ruleOk
    rw [Bool.not_and]
    apply eb_or
    · walk_at "ev"
    · intro _
      apply eb_not
      apply eb_B
      refine ev_is (ev_all (bs := r.cps.toList.map fun c => decide (c ∈ signs4.cps.toList)) ?_) (by simp [List.all_map])
      rw [List.map_map]
      refine ev_lcm hE (ei_str (x := r) (by walk_at "ev")) (fun c => [(1, .str ⟨#[c]⟩)]) _ (fun c _ => tg_name) (fun c _ q hq => by simp at hq; subst hq; simp) (fun c _ σ' T l hE' => ?_) (by have : r.cps.toList.length = r.length := rfl; omega)
      exact ev_inS (ev_var hE' rfl) ev_cs
  case h1 => exact fun e T l => h2 (not_t e) T l
  case h2 => exact fun e T l => h1 (not_f e) T l
end

end MW

set_option Elab.async false
set_option linter.all false
set_option maxRecDepth 100000
set_option maxHeartbeats 4000000
namespace MW
open PySem PySem.Spec PyProof.Rows L2
local macro_rules | `(tactic| walk_at "ev") => `(tactic| first
  | (refine ev_var (by assumption) ?_; rfl)
  | (refine ev_varv (by assumption) ?_; rfl)
  | exact ev_ci
  | exact ev_cs
  | exact ev_cb
  | exact ev_cn
  | exact eb_yes
  | exact ea_nil
  | exact ea_d0
  | exact eo_none
  | (apply ea_cons <;> walk_at "ev")
  | (apply eo_some <;> walk_at "ev")
  | (apply ev_I0 <;> walk_at "ev")
  | (apply ev_B0 <;> walk_at "ev")
  | (apply ev_chain <;> walk_at "ev")
  | (apply ev_neg <;> walk_at "ev")
  | (apply ev_lenL <;> walk_at "ev")
  | (apply ev_lenT <;> walk_at "ev")
  | (apply eb_test <;> walk_at "ev")
  | (apply eb_B <;> walk_at "ev")
  | (apply eb_not <;> walk_at "ev")
  | (apply ev_notV <;> walk_at "ev")
  | (apply ev_tup <;> walk_at "ev")
  | (apply ea_ds <;> walk_at "ev")
  | (apply ev_ixT <;> walk_at "ev")
  | (apply ev_ixL <;> walk_at "ev")
  | (apply ev_eqD <;> walk_at "ev")
  | (apply ev_neD <;> walk_at "ev")
  | (apply ev_inS <;> walk_at "ev")
  | (apply ev_isN <;> walk_at "ev")
  | (apply ev_notN <;> walk_at "ev")
  | (apply ev_andV <;> walk_at "ev")
  | (apply ev_orV <;> walk_at "ev")
  | (apply eb_and <;> walk_at "ev")
  | (apply eb_or <;> walk_at "ev")
  | (apply ev_I <;> walk_at "ev")
  | (apply ev_lenS <;> walk_at "ev")
  | (apply ev_all <;> walk_at "ev")
  | (apply ev_any <;> walk_at "ev")
  | (intro _; walk_at "ev")
  | rfl
  | (with_reducible assumption)
  | decide
  | omega)
theorem sc_look_floor : FnScope ["rule", "floor", "mark", "x", "y", "colour", "places"] ["rule", "floor"] (defScope (top 13)) := ⟨rfl, rfl, rfl, by decide +kernel, rfl, by decide +kernel, by decide +kernel⟩
section
variable {P : Program} {w : World} {K : PySem.W.Frag} {mg : Str → Option Value} {base : Heap}
theorem k_look_floor (T : Tx K mg) (D : Def K mg "look_floor" (top 13)) : FnK P w K mg base 1 "look_floor" ["rule", "floor"] (sp_look_floor K) := by
  refine fn_mk D sc_look_floor (fun vs H Q E h => ?_) (fun _ _ _ _ _ _ us hl => match us, hl with | [_, _], _ => rfl) (fun f cdv A outer s H vs Q E hr h => ?_)
  · obtain ⟨S, r, fl, rfl, hv, _⟩ := h
    exact hv.len
  obtain ⟨S, r, fl, rfl, hv, hrl, hfl, h1, h2⟩ := h
  refine ⟨_, (pss_cons (ps_if (PW.pt (pw_or (pt_cmpR op_gt (pe_callB (kr_len (K := K)) (by rfl) T.len (by decide +kernel) (pa_cons (pv 1) pa_nil)) (pe_kint T.MOST_MARKS) (nomark _)) (pw_or1 (pt_not (pt_val (pe_callB (kr_all (K := K) rfl) (by rfl) T.all (by decide +kernel) (pa_cons (pe_lc (own := [("mark", 2)]) rfl sc_look_floor.nd (kpi_list (K := K) (pv 1)) (blkOk_by (N := ["rule", "floor", "mark", "x", "y", "colour", "places"]) (sc := defScope (top 13)) (by decide +kernel)) (fun _ _ _ _ _ => (pg_name (i := 2) sc_look_floor.nd rfl (Or.inl rfl))) (fun _ _ _ _ _ => pts_nil) (fun _ _ _ _ _ => (pe_cmpR (kr_eqD (K := K) hr.units) (pe_callB (kr_len (K := K)) (by rfl) T.len (by decide +kernel) (pa_cons (pv 2) pa_nil)) pe_int (nomark _)))) pa_nil))))))) (pss_one (ps_rz T.BadFloor rfl rfl rfl rfl rfl)) pss_nil)
      (pss_cons (ps_for (passes_of rfl) rfl (kpi_list (K := K) (pv 1)) (kpg_tup (K := K) (n := 3) rfl (pgs_cons (pg_name (i := 3) sc_look_floor.nd rfl (Or.inl rfl)) (pgs_cons (pg_name (i := 4) sc_look_floor.nd rfl (Or.inl rfl)) (pgs_cons (pg_name (i := 5) sc_look_floor.nd rfl (Or.inl rfl)) pgs_nil)))) (pss_one (ps_if (PW.pt (pw_or (pt_not (pt_chain op_le op_le (pe_op op_sub pe_int (pe_kint T.FAR)) (pv 3) (pe_kint T.FAR))) (pw_or (pt_not (pt_chain op_le op_le (pe_op op_sub pe_int (pe_kint T.FAR)) (pv 4) (pe_kint T.FAR))) (pw_or1 (pt_not (pt_chain op_le op_lt pe_int (pv 5) (pe_callB (kr_len (K := K)) (by rfl) T.len (by decide +kernel) (pa_cons (pv 0) pa_nil)))))))) (pss_one (ps_rz T.BadFloor rfl rfl rfl rfl rfl)) pss_nil)))
      (pss_cons (ps_setLc (i := 6) (own := [("mark", 2)]) rfl sc_look_floor.nd rfl rfl (sw_true rfl rfl rfl (by decide +kernel)) (kpi_list (K := K) (pv 1)) (blkOk_by (N := ["rule", "floor", "mark", "x", "y", "colour", "places"]) (sc := defScope (top 13)) (by decide +kernel)) (fun _ _ _ _ _ => (pg_name (i := 2) sc_look_floor.nd rfl (Or.inl rfl))) (fun _ _ _ _ _ => pts_nil) (fun _ _ _ _ _ => (pe_slice (ks_tup (K := K)) (pv 2) po_none (po_some pe_int))))
      (pss_one (ps_if (pt_cmpR (kr_neD (K := K) hr.units) (pe_callB (kr_sortS (K := K) rfl hr.units) (by rfl) T.sorted (by decide +kernel) (pa_cons (pe_callTy (kr_setP (K := K) rfl hr.units) (by rfl) T.set (by decide +kernel) (pa_cons (pv 6) pa_nil)) pa_nil)) (pv 6) (nomark _)) (pss_one (ps_rz T.BadFloor rfl rfl rfl rfl rfl)) pss_nil))))), ?_⟩
  have hE := Sv.start (N := ["rule", "floor", "mark", "x", "y", "colour", "places"]) hv rfl
  -- too many marks
  apply st_if (K := K) (b := decide ((200 : Int) < ((fl.map eM).length : Nat)) || !true)
  case hb =>
    apply eb_or
    · walk_at "ev"
    · intro _
      apply eb_not
      apply eb_B
      refine ev_is (ev_all (bs := fl.map fun _ => true) ?_) (by simp [List.all_map])
      rw [List.map_map]
      refine ev_lcm hE (ei_list (by walk_at "ev")) (fun m => [(2, eM m)]) _ (fun m _ => tg_name) (fun m _ q hq => by simp at hq; subst hq; simp) (fun m _ σ' T l hE' => ?_) (by omega)
      refine ev_is (ev_eqD (d := .int 3) (e := .int 3) (ev_lenT (ds := [.int m.1, .int m.2.1, .int m.2.2]) (ev_var hE' rfl)) ev_ci rfl rfl) rfl
  case h1 =>
    intro e T l
    refine h2 ?_ T l
    simp at e
    unfold floorOk
    rw [decide_eq_false (by omega)]
    rfl
  case h2 =>
    intro e T1 l1
    simp at e
    have hl : fl.length ≤ 200 := by omega
    dsimp only [tNext]
    -- the marks, one by one
    apply st_forT (xs := fl) (enc := eM) (ei_list (ev_var (hE.up l1.g) rfl)) (fun _ n σ' T => Le T1 T ∧ (fl.take n).all (markOk r.length) = true ∧ Sv K T.G σ' [.d (.str r), .d (.list (fl.map eM)), .non, .non, .non, .non, .non])
    case h0 => exact fun U l => ⟨l, rfl, (hE.up (l1.trans l).g)⟩
    case hs =>
      intro U n m σ' T v lU hm hG hI hv
      obtain ⟨lT, hall, hE'⟩ := hI
      refine tg_tup3 v σ' T _ hv fun σ2 hE2 _ => ?_
      have hE2 := hE2 _ hE'
      apply st_if (K := K) (b := !markOk r.length m)
      case hb =>
        apply eb_is
        · apply eb_or
          · walk_at "ev"
          · intro _
            apply eb_or
            · walk_at "ev"
            · intro _
              apply eb_not
              apply eb_test
              apply ev_chain
              · walk_at "ev"
              · walk_at "ev"
              · exact ev_lenS (ev_var hE2 rfl) (by omega)
        · unfold markOk
          simp only [Bool.not_and]
      case h1 =>
        intro e T2 l2
        refine h2 ?_ T2 (l1.trans (lT.trans l2))
        have : fl.all (markOk r.length) = false := by
          cases q : fl.all (markOk r.length) with
          | false => rfl
          | true =>
            have z := List.all_eq_true.mp q m (List.mem_of_getElem? hm)
            rw [z] at e
            cases e
        unfold floorOk
        rw [this, Bool.false_and, Bool.and_false]
      case h2 =>
        intro e T2 l2
        refine ⟨T2, rfl, l2.g, lT.trans l2, ?_, (((hE2.up l2.g).forget 3).forget 4).forget 5⟩
        rw [List.take_add_one, hm, List.all_append, hall]
        simp [not_f e]
    case hd =>
      intro U σ' T2 lU hG hI
      obtain ⟨lT, hall, hE'⟩ := hI
      rw [List.take_length] at hall
      dsimp only
      -- the places
      apply st_asg (s := .d (.list ((fl.map plOf).map eP))) hE'
      case he =>
        rw [List.map_map]
        refine ev_lcm hE' (ei_list (ev_var hE' rfl)) (fun m => [(2, eM m)]) _ (fun m _ => tg_name) (fun m _ q hq => by simp at hq; subst hq; simp) (fun m _ σ' T l hE' => ?_) (by omega)
        exact ev_slT (ds := [.int m.1, .int m.2.1, .int m.2.2]) (ev_var hE' rfl) eo_none (eo_some ev_ci) (by show ¬ (HT.sIx 3 0 none = 0 ∧ HT.sIx 3 3 (some 2) = 3); decide)
      case k =>
        intro σ3 T3 l3 hE3
        dsimp only
        have sh : ∀ l : List Pl, SeqAt.shaped (.list (l.map eP)) = true := fun l => (shp_map shp_P l).to (by decide)
        apply st_if (K := K) (b := !decide (sd (fl.map plOf) = fl.map plOf))
        case hb =>
          apply eb_test
          refine ev_is (ev_neD (ev_sortset (ev_var hE3 rfl) (by rw [List.length_map]; omega)) (ev_var hE3 rfl) (sh _) (sh _)) (by rw [eqv_lists eqv_P])
        case h1 =>
          intro e T4 l4
          refine h2 ?_ T4 (((l1.trans lT).trans l3).trans l4)
          unfold floorOk
          rw [not_t e, Bool.and_false, Bool.and_false]
        case h2 =>
          intro e T4 l4
          refine h1 ?_ T4 (((l1.trans lT).trans l3).trans l4)
          unfold floorOk
          rw [not_f e, hall, decide_eq_true hl]
          rfl
end

end MW

set_option Elab.async false
set_option linter.all false
set_option maxRecDepth 100000
set_option maxHeartbeats 4000000
namespace MW
open PySem PySem.Spec PyProof.Rows L2
local macro_rules | `(tactic| walk_at "ev") => `(tactic| first
  | (refine ev_var (by assumption) ?_; rfl)
  | (refine ev_varv (by assumption) ?_; rfl)
  | exact ev_ci
  | exact ev_cs
  | exact ev_cb
  | exact ev_cn
  | exact eb_yes
  | exact ea_nil
  | exact ea_d0
  | exact eo_none
  | (apply ea_cons <;> walk_at "ev")
  | (apply eo_some <;> walk_at "ev")
  | (apply ev_I0 <;> walk_at "ev")
  | (apply ev_B0 <;> walk_at "ev")
  | (apply ev_chain <;> walk_at "ev")
  | (apply ev_neg <;> walk_at "ev")
  | (apply ev_lenL <;> walk_at "ev")
  | (apply ev_lenT <;> walk_at "ev")
  | (apply eb_test <;> walk_at "ev")
  | (apply eb_B <;> walk_at "ev")
  | (apply eb_not <;> walk_at "ev")
  | (apply ev_notV <;> walk_at "ev")
  | (apply ev_tup <;> walk_at "ev")
  | (apply ea_ds <;> walk_at "ev")
  | (apply ev_ixT <;> walk_at "ev")
  | (apply ev_ixL <;> walk_at "ev")
  | (apply ev_eqD <;> walk_at "ev")
  | (apply ev_neD <;> walk_at "ev")
  | (apply ev_inS <;> walk_at "ev")
  | (apply ev_isN <;> walk_at "ev")
  | (apply ev_notN <;> walk_at "ev")
  | (apply ev_andV <;> walk_at "ev")
  | (apply ev_orV <;> walk_at "ev")
  | (apply eb_and <;> walk_at "ev")
  | (apply eb_or <;> walk_at "ev")
  | (apply ev_I <;> walk_at "ev")
  | (apply ev_lenS <;> walk_at "ev")
  | (apply ev_all <;> walk_at "ev")
  | (apply ev_any <;> walk_at "ev")
  | (intro _; walk_at "ev")
  | rfl
  | (with_reducible assumption)
  | decide
  | omega)
theorem sc__law_cell : FnScope ["script", "k"] ["script", "k"] (defScope (top 24)) := ⟨rfl, rfl, rfl, by decide +kernel, rfl, by decide +kernel, by decide +kernel⟩
theorem sc__law_mix : FnScope ["script", "k", "number"] ["script", "k"] (defScope (top 25)) := ⟨rfl, rfl, rfl, by decide +kernel, rfl, by decide +kernel, by decide +kernel⟩
theorem sc__law_draw : FnScope ["script", "town", "many"] ["script", "town", "many"] (defScope (top 26)) := ⟨rfl, rfl, rfl, by decide +kernel, rfl, by decide +kernel, by decide +kernel⟩
theorem sc__law_pick : FnScope ["script", "town", "some"] ["script", "town", "some"] (defScope (top 27)) := ⟨rfl, rfl, rfl, by decide +kernel, rfl, by decide +kernel, by decide +kernel⟩
section
variable {P : Program} {w : World} {K : PySem.W.Frag} {mg : Str → Option Value} {base : Heap}
theorem k__law_cell (T : Tx K mg) (D : Def K mg "_law_cell" (top 24)) : FnK P w K mg base 1 "_law_cell" ["script", "k"] (sp__law_cell K) := by
  refine fn_mk D sc__law_cell (fun vs H Q E h => ?_) (fun _ _ _ _ _ _ us hl => match us, hl with | [_, _], _ => rfl) (fun f cdv A outer s H vs Q E hr h => ?_)
  · obtain ⟨S, a, ns, k, rfl, hv, _⟩ := h
    exact hv.len
  obtain ⟨S, a, ns, k, rfl, hv, hs, h1⟩ := h
  refine ⟨_, (pss_cons (ps_if (pt_truth (pv 0) (by intro _; rfl)) (pss_one (ps_ret (pe_ix (kx_list (K := K)) (pv 0) (pe_op op_mod (pv 1) (pe_callB (kr_len (K := K)) (by rfl) T.len (by decide +kernel) (pa_cons (pv 0) pa_nil))) (fun _ _ => rfl)))) pss_nil)
      (pss_one (ps_ret pe_int))), ?_⟩
  have hE := Sv.start (N := ["script", "k"]) hv rfl
  apply st_if (K := K) (b := !(ns.map V.int).isEmpty)
  case hb => exact eb_truQ (ev_varv hE rfl) fun T l => sq_up hs l.g
  case h1 =>
    intro e T1 l1
    have hE1 := hE.up l1.g
    have hl : 0 < ns.length := by
      cases ns with
      | nil => cases e
      | cons n ns => simp
    have hr0 := Int.emod_nonneg k (show ((ns.length : Nat) : Int) ≠ 0 by omega)
    have hr1 := Int.emod_lt_of_pos k (show (0 : Int) < ((ns.length : Nat) : Int) by omega)
    have hlt : (k % (ns.length : Int)).toNat < ns.length := by omega
    refine st_ret (ev_ixQ (i := k % ((ns.map V.int).length : Nat)) (n := ns[(k % (ns.length : Int)).toNat]) (ev_varv hE1 rfl) (ev_I (ev_var hE1 rfl) (ev_lenQ (ev_varv hE1 rfl) fun T l => sq_up hs (l1.trans l).g) ?_) (fun T l => sq_up hs (l1.trans l).g) ?_) fun v T2 l2 o => ?_
    · show (0 : Int) < ((ns.map V.int).length : Nat)
      rw [List.length_map]; omega
    · unfold L2.atI ixN
      rw [List.length_map, if_pos hr0, if_pos hr1]
      show (ns.map V.int)[(k % (ns.length : Int)).toNat]? = _
      rw [List.getElem?_map, List.getElem?_eq_getElem hlt]
      rfl
    · have ev := Da.int_eq o
      subst ev
      exact h1 _ T2 (l1.trans l2)
  case h2 =>
    intro e T1 l1
    dsimp only [tNext]
    refine st_ret (K := K) ev_ci fun v T2 l2 o => ?_
    have ev := Da.int_eq o
    subst ev
    exact h1 _ T2 (l1.trans l2)
theorem k__law_mix (T : Tx K mg) (D : Def K mg "_law_mix" (top 25)) (F__law_cell : FnK P w K mg base 1 "_law_cell" ["script", "k"] (sp__law_cell K)) : FnK P w K mg base 2 "_law_mix" ["script", "k"] (sp__law_mix K) := by
  refine fn_mk D sc__law_mix (fun vs H Q E h => ?_) (fun _ _ _ _ _ _ us hl => match us, hl with | [_, _], _ => rfl) (fun f cdv A outer s H vs Q E hr h => ?_)
  · obtain ⟨S, a, ns, k, rfl, hv, _⟩ := h
    exact hv.len
  obtain ⟨S, a, ns, k, rfl, hv, hs, h1⟩ := h
  refine ⟨_, (pss_cons (ps_set (i := 2) sc__law_mix.nd rfl (Or.inl rfl) (pe_op op_mod (pe_op op_add (pe_fn F__law_cell (hr.mono (by decide)) (passes_call (takes_of rfl rfl rfl rfl) (fun _ _ _ _ h => h)) (pa_cons (pv 0) (pa_cons (pv 1) pa_nil))) (pe_op op_mul pe_int (pe_op op_add (pv 1) pe_int))) pe_int))
      (pss_cons (ps_set (i := 2) sc__law_mix.nd rfl (Or.inl rfl) (pe_op op_mod (pe_op op_pow (pv 2) pe_int) pe_int))
      (pss_one (ps_ret (pe_op op_mod (pe_op op_add (pe_op op_mul (pe_op op_fdiv (pv 2) pe_int) pe_int) (pv 2)) pe_int))))), ?_⟩
  have hE := Sv.start (N := ["script", "k", "number"]) hv rfl
  refine st_asgZ (φ := fun n => 0 ≤ n ∧ n < 4294967291) hE ?_ fun n σ1 T1 hn l1 hE1 => ?_
  · refine ez_I (φ := fun _ => True) (ψ := fun j => j = 4294967291) (ez_I0 (φ := fun _ => True) (ψ := fun _ => True) ?_ ?_ fun _ _ _ _ => trivial) (ez_of ev_ci rfl) (fun i j _ hj => ?_) (fun i j _ hj => ?_)
    · intro T0 l0 Q0 q0
      refine (ea_cons (ev_varv hE rfl) (ea_cons (ev_var hE rfl) ea_nil)) T0 l0 _ fun vs U lU o => ?_
      rw [List.append_nil]
      exact ⟨U, a, ns, k, rfl, o, (l0.trans lU).g.seq hs, fun i W lW => q0 i W trivial (lU.trans lW)⟩
    · exact ez_of (ev_I ev_ci (ev_I0 (ev_var hE rfl) ev_ci) (.inl ⟨by decide, by decide⟩)) trivial
    · subst hj; show (0 : Int) < 4294967291; decide
    · subst hj
      exact ⟨Int.emod_nonneg _ (by decide), Int.emod_lt_of_pos _ (by decide)⟩
  dsimp only
  refine st_asgZ (φ := fun n => 0 ≤ n ∧ n < 4294967279) hE1 ?_ fun m σ2 T2 hm l2 hE2 => ?_
  · refine ez_I (φ := fun _ => True) (ψ := fun j => j = 4294967279) (ez_of (ev_I (ev_var hE1 rfl) ev_ci ?_) trivial) (ez_of ev_ci rfl) (fun i j _ hj => ?_) (fun i j _ hj => ?_)
    · refine ⟨by decide, by decide, ?_⟩
      have : n.natAbs < 4294967291 := by omega
      exact Nat.lt_trans this (by decide)
    · subst hj; show (0 : Int) < 4294967279; decide
    · subst hj
      exact ⟨Int.emod_nonneg _ (by decide), Int.emod_lt_of_pos _ (by decide)⟩
  dsimp only
  refine st_retZ (K := K) (φ := fun n => 0 ≤ n) ?_ fun z T3 hz l3 => h1 z T3 hz ((l1.trans l2).trans l3)
  refine ez_I (φ := fun _ => True) (ψ := fun j => j = 4294967231) (ez_of (ev_I0 (ev_I (ev_I (ev_var hE2 rfl) ev_ci ⟨by decide, by decide⟩) ev_ci (.inr ⟨by decide, by decide⟩)) (ev_var hE2 rfl)) trivial) (ez_of ev_ci rfl) (fun i j _ hj => ?_) (fun i j _ hj => ?_)
  · subst hj; show (0 : Int) < 4294967231; decide
  · subst hj
    exact Int.emod_nonneg _ (by decide)
theorem k__law_draw (T : Tx K mg) (D : Def K mg "_law_draw" (top 26)) (F__law_mix : FnK P w K mg base 2 "_law_mix" ["script", "k"] (sp__law_mix K)) : FnK P w K mg base 3 "_law_draw" ["script", "town", "many"] (sp__law_draw K) := by
  refine fn_mk D sc__law_draw (fun vs H Q E h => ?_) (fun _ _ _ _ _ _ us hl => match us, hl with | [_, _, _], _ => rfl) (fun f cdv A outer s H vs Q E hr h => ?_)
  · obtain ⟨S, a, t, ns, many, b, rfl, hv, _⟩ := h
    exact hv.len
  obtain ⟨S, a, t, ns, many, b, rfl, hv, hs, ht, hm, h1⟩ := h
  refine ⟨_, (pss_cons (ps_expr (kpe_bm (K := K) rfl PySem.F.plainAttrs_list PySem.F.slot_list_append PySem.F.type_list_append mt_append (pv 1) (pa_cons pe_int pa_nil)))
      (pss_one (ps_ret (pe_op op_mod (pe_op op_fdiv (pe_fn F__law_mix (hr.mono (by decide)) (passes_call (takes_of rfl rfl rfl rfl) (fun _ _ _ _ h => h)) (pa_cons (pv 0) (pa_cons (pe_callB (kr_len (K := K)) (by rfl) T.len (by decide +kernel) (pa_cons (pv 1) pa_nil)) pa_nil))) pe_int) (pv 2))))), ?_⟩
  have hE := Sv.start (N := ["script", "town", "many"]) hv rfl
  refine st_town (K := K) (ev_varv hE rfl) ht fun T1 l1 t1 => ?_
  have hE1 := hE.up l1.g
  dsimp only
  obtain ⟨g1, n1, hn1, e1⟩ := id t1
  refine st_retZ (K := K) (φ := fun n => 0 ≤ n ∧ n < many) ?_ fun z T2 hz l2 => h1 z T2 hz.1 hz.2 (l1.trans (l2.lm _) t1.has) (t1.up l2)
  refine ez_I (φ := fun n => 0 ≤ n) (ψ := fun j => j = many) (ez_I (φ := fun n => 0 ≤ n) (ψ := fun j => j = 8) ?_ (ez_of ev_ci rfl) (fun i j _ hj => ?_) (fun i j hi hj => ?_)) (ez_of (ev_var hE1 rfl) rfl) (fun i j _ hj => ?_) (fun i j _ hj => ?_)
  · intro T0 l0 Q0 q0
    refine (ea_cons (ev_varv hE1 rfl) (ea_cons (ev_lenQ (xs := zeros n1) (ev_varv hE1 rfl) fun T l => SqL.of (l.2.1 _ _ e1)) ea_nil)) T0 l0 _ fun vs U lU o => ?_
    rw [List.append_nil]
    exact ⟨U, a, ns, _, rfl, o, (l1.g.trans (l0.trans lU).g).seq hs, fun i W hi lW => q0 i W hi (lU.trans lW)⟩
  · subst hj; exact ⟨by decide, by decide⟩
  · subst hj; exact Int.ediv_nonneg hi (by decide)
  · subst hj; exact hm
  · subst hj; exact ⟨Int.emod_nonneg _ (by omega), Int.emod_lt_of_pos _ hm⟩
theorem k__law_pick (T : Tx K mg) (D : Def K mg "_law_pick" (top 27)) (F__law_draw : FnK P w K mg base 3 "_law_draw" ["script", "town", "many"] (sp__law_draw K)) : FnK P w K mg base 4 "_law_pick" ["script", "town", "some"] (sp__law_pick K) := by
  refine fn_mk D sc__law_pick (fun vs H Q E h => ?_) (fun _ _ _ _ _ _ us hl => match us, hl with | [_, _, _], _ => rfl) (fun f cdv A outer s H vs Q E hr h => ?_)
  · obtain ⟨S, a, t, ns, ds, b, rfl, hv, _⟩ := h
    exact hv.len
  obtain ⟨S, a, t, ns, ds, b, rfl, hv, hs, ht, hm, h1⟩ := h
  refine ⟨_, (pss_one (ps_ret (pe_ix (kx_list (K := K)) (pv 2) (pe_fn F__law_draw (hr.mono (by decide)) (passes_call (takes_of rfl rfl rfl rfl) (fun _ _ _ _ h => h)) (pa_cons (pv 0) (pa_cons (pv 1) (pa_cons (pe_callB (kr_len (K := K)) (by rfl) T.len (by decide +kernel) (pa_cons (pv 2) pa_nil)) pa_nil)))) (fun _ _ => rfl)))), ?_⟩
  have hE := Sv.start (N := ["script", "town", "some"]) hv rfl
  have hd := en_draw (K := K) (t := t) (E := E) (σ := L2.start ["script", "town", "some"] vs) (S := S) (b := b) (a := a) (ns := ns) (many := (ds.length : Nat)) (tr := tCons (tVar 0) (tCons (tVar 1) (tCons (tCB (rLen K) (tCons (tVar 2) tNil)) tNil)))
    (fun T g => ea_cons (ev_varv (hE.up g) rfl) (ea_cons (ev_varv (hE.up g) rfl) (ea_cons (ev_lenL (ev_var (hE.up g) rfl)) ea_nil))) hs (by omega)
  unfold tRet tOp
  refine ev_var hE (i := 2) rfl S (Le.refl S) _ fun v U lU o => ?_
  dsimp only
  refine hd U (lU.lm _) (ht.up lU) _ fun d w T2 hd l2 t2 o2 => ?_
  obtain ⟨i, rfl, hi0, hi1⟩ := hd
  have ew := Da.int_eq o2
  subst ew
  obtain ⟨x, xs, rfl, e1, e2⟩ := Da.lst_eq (Da.up l2.g o)
  have hlt : i.toNat < ds.length := by omega
  have eI : L2.atI ds i = some ds[i.toNat] := by
    unfold L2.atI ixN
    rw [if_pos hi0, if_pos hi1]
    exact List.getElem?_eq_getElem hlt
  obtain ⟨z, e3, e4⟩ := e2.atI eI
  exact ⟨x, xs, i, z, rfl, rfl, SqL.of (T2.sub _ _ e1), e3, h1 _ z T2 (List.getElem_mem hlt) (Lt.trans (lU.lm _) l2 (ht.up lU).has) t2 e4⟩
end

end MW

set_option Elab.async false
set_option linter.all false
set_option maxRecDepth 100000
set_option maxHeartbeats 4000000
namespace MW
open PySem PySem.Spec PyProof.Rows L2
local macro_rules | `(tactic| walk_at "ev") => `(tactic| first
  | (refine ev_var (by assumption) ?_; rfl)
  | (refine ev_varv (by assumption) ?_; rfl)
  | exact ev_ci
  | exact ev_cs
  | exact ev_cb
  | exact ev_cn
  | exact eb_yes
  | exact ea_nil
  | exact ea_d0
  | exact eo_none
  | (apply ea_cons <;> walk_at "ev")
  | (apply eo_some <;> walk_at "ev")
  | (apply ev_I0 <;> walk_at "ev")
  | (apply ev_B0 <;> walk_at "ev")
  | (apply ev_chain <;> walk_at "ev")
  | (apply ev_neg <;> walk_at "ev")
  | (apply ev_lenL <;> walk_at "ev")
  | (apply ev_lenT <;> walk_at "ev")
  | (apply eb_test <;> walk_at "ev")
  | (apply eb_B <;> walk_at "ev")
  | (apply eb_not <;> walk_at "ev")
  | (apply ev_notV <;> walk_at "ev")
  | (apply ev_tup <;> walk_at "ev")
  | (apply ea_ds <;> walk_at "ev")
  | (apply ev_ixT <;> walk_at "ev")
  | (apply ev_ixL <;> walk_at "ev")
  | (apply ev_eqD <;> walk_at "ev")
  | (apply ev_neD <;> walk_at "ev")
  | (apply ev_inS <;> walk_at "ev")
  | (apply ev_isN <;> walk_at "ev")
  | (apply ev_notN <;> walk_at "ev")
  | (apply ev_andV <;> walk_at "ev")
  | (apply ev_orV <;> walk_at "ev")
  | (apply eb_and <;> walk_at "ev")
  | (apply eb_or <;> walk_at "ev")
  | (apply ev_I <;> walk_at "ev")
  | (apply ev_lenS <;> walk_at "ev")
  | (apply ev_all <;> walk_at "ev")
  | (apply ev_any <;> walk_at "ev")
  | (intro _; walk_at "ev")
  | rfl
  | (with_reducible assumption)
  | decide
  | omega)
theorem sc__law_rule : FnScope ["script", "town", "known", "k"] ["script", "town"] (defScope (top 29)) := ⟨rfl, rfl, rfl, by decide +kernel, rfl, by decide +kernel, by decide +kernel⟩
section
variable {P : Program} {w : World} {K : PySem.W.Frag} {mg : Str → Option Value} {base : Heap}
theorem k__law_rule (T : Tx K mg) (D : Def K mg "_law_rule" (top 29)) (F__law_draw : FnK P w K mg base 3 "_law_draw" ["script", "town", "many"] (sp__law_draw K)) (F__law_pick : FnK P w K mg base 4 "_law_pick" ["script", "town", "some"] (sp__law_pick K)) : FnK P w K mg base 5 "_law_rule" ["script", "town"] (sp__law_rule K) := by
  refine fn_mk D sc__law_rule (fun vs H Q E h => ?_) (fun _ _ _ _ _ _ us hl => match us, hl with | [_, _], _ => rfl) (fun f cdv A outer s H vs Q E hr h => ?_)
  · obtain ⟨S, a, t, ns, b, rfl, hv, _⟩ := h
    exact hv.len
  obtain ⟨S, a, t, ns, b, rfl, hv, hs, ht, h1⟩ := h
  refine ⟨_, (pss_cons (ps_set (i := 2) sc__law_rule.nd rfl (Or.inl rfl) (pe_lst (pa_cons pe_str (pa_cons pe_str (pa_cons pe_str (pa_cons pe_str (pa_cons pe_str (pa_cons pe_str (pa_cons pe_str (pa_cons pe_str (pa_cons pe_str (pa_cons pe_str (pa_cons pe_str (pa_cons pe_str pa_nil))))))))))))))
      (pss_cons (ps_if (pt_cmpR (kr_eqD (K := K) hr.units) (pe_fn F__law_draw (hr.mono (by decide)) (passes_call (takes_of rfl rfl rfl rfl) (fun _ _ _ _ h => h)) (pa_cons (pv 0) (pa_cons (pv 1) (pa_cons pe_int pa_nil)))) pe_int (nomark _)) (pss_one (ps_ret (pe_fn F__law_pick (hr.mono (by decide)) (passes_call (takes_of rfl rfl rfl rfl) (fun _ _ _ _ h => h)) (pa_cons (pv 0) (pa_cons (pv 1) (pa_cons (pv 2) pa_nil)))))) pss_nil)
      (pss_one (ps_ret (kp_join (K := K) rfl pe_str (pe_lc (own := [("k", 3)]) rfl sc__law_rule.nd (pi_range1 rfl T.range (pa_cons (pe_op op_add pe_int (pe_fn F__law_draw (hr.mono (by decide)) (passes_call (takes_of rfl rfl rfl rfl) (fun _ _ _ _ h => h)) (pa_cons (pv 0) (pa_cons (pv 1) (pa_cons pe_int pa_nil))))) pa_nil)) (blkOk_by (N := ["script", "town", "known", "k"]) (sc := defScope (top 29)) (by decide +kernel)) (fun _ _ _ _ _ => (pg_name (i := 3) sc__law_rule.nd rfl (Or.inl rfl))) (fun _ _ _ _ _ => pts_nil) (fun _ _ _ _ _ => (pe_ix ix_str pe_str (pe_fn F__law_draw (hr.mono (by decide)) passL (pa_cons (pv 0) (pa_cons (pv 1) (pa_cons pe_int pa_nil)))) (fun _ _ => rfl))))))))), ?_⟩
  have hE := Sv.start (N := ["script", "town", "known", "k"]) (n := 2) hv rfl
  refine st_asg (s := .d (.list [.str "RL", .str "LR", .str "NR", .str "NN", .str "UU", .str "LLRR", .str "RLR", .str "LRN", .str "UR", .str "RLLR", .str "NU", .str "NL"])) hE ?_ fun σ1 T1 l1 hE1 => ?_
  · refine ev_lst ?_ (by decide)
    repeat (first | exact ea_d0 | refine ea_ds ev_cs ?_)
  have t1 := ht.up l1
  have hs1 := l1.g.seq hs
  clear hE
  dsimp only
  have dr : ∀ (σ : L2.St) (S : Sit) (δ : List Sl) (E : XK) (b : Nat) (many : Int), Sv K S.G σ δ → δ[0]? = some (.v (.ref a)) → δ[1]? = some (.v (.ref t)) → SqL K S.G a (ns.map V.int) → 0 < many → EvN K t (tCall (sp__law_draw K) [] E (tCons (tVar 0) (tCons (tVar 1) (tCons (tC (.int many)) tNil)))) σ S (b + 1) b (fun d => ∃ i, d = .int i ∧ 0 ≤ i ∧ i < many) := fun σ S δ E b many hE e0 e1 hs hm =>
    en_draw (fun T g => ea_cons (ev_varv (hE.up g) e0) (ea_cons (ev_varv (hE.up g) e1) (ea_cons ev_ci ea_nil))) hs hm
  refine st_ifN (K := K) (b := b + 10) (b1 := b + 9) t1 ?_ (fun T2 l2 t2 => ?_) (fun T2 l2 t2 => ?_)
  · exact en_b (fun x y => tOp (rEqD K) x y) (fun _ _ _ _ _ => rfl) (dr _ _ _ _ (b + 9) 2 hE1 rfl rfl hs1 (by decide)) (en_pure fun T _ => ev_ci (i := 0)) fun d e hd he => by
      obtain ⟨i, rfl, _⟩ := hd
      subst he
      exact ⟨_, ⟨_, rfl⟩, fun x y T _ hx hy => ev_eqD hx hy rfl rfl⟩
  · have hE2 := hE1.up l2.g
    refine st_retN (K := K) (b := b + 9) (b1 := b + 8) t2 (en_pick (fun T g => ea_cons (ev_varv (hE2.up g) rfl) (ea_cons (ev_varv (hE2.up g) rfl) (ea_cons (ev_var (hE2.up g) rfl) ea_nil))) (l2.g.seq hs1) (by decide)) fun d v T3 hd l3 t3 o => ?_
    have ll : Lt t S T3 := Lt.trans (Lt.trans (l1.lm _) l2 t1.has) l3 t2.has
    simp only [List.mem_cons, List.not_mem_nil, or_false] at hd
    rcases hd with rfl | rfl | rfl | rfl | rfl | rfl | rfl | rfl | rfl | rfl | rfl | rfl <;> exact h1 _ v T3 (by decide) ll (t3.less (by omega)) o
  · have hE2 := hE1.up l2.g
    have hs2 := l2.g.seq hs1
    dsimp only [tNext]
    refine st_retN (K := K) (b := b + 9) (b1 := b) (Φ := fun d => ∃ r : Str, d = .str r ∧ ruleOk r = true) t2 ?_ fun d v T3 hd l3 t3 o => ?_
    · refine en_join (en_lc (α := Int) (enc := fun i => .int i) (N := 5) (c := 1) (b := b + 9) (b1 := b) (Ψs := fun xs => 2 ≤ xs.length ∧ xs.length ≤ 5) (Φx := fun _ d => ∃ c, d = .str ⟨#[c]⟩ ∧ c ∈ signs4.cps.toList) hE2 ?_ (fun xs h => h.2) (by decide) (fun i => [(3, .int i)]) (fun _ _ _ _ => tg_name) (fun _ _ _ _ q hq => by simp at hq; subst hq; simp) (fun xs _ x _ m σ' T' l' hE' => ?_)) fun d hd => ?_
      · have z := ein_rng1 (b1 := b + 8) (en_b (fun x y => tOp _ x y) (fun _ _ _ _ _ => rfl) (en_pure fun T _ => ev_ci (i := 2)) (dr _ _ _ E (b + 8) 4 hE2 rfl rfl hs2 (by decide)) (Χ := fun d => ∃ i, d = .int i ∧ 2 ≤ i ∧ i ≤ 5) fun d e hd he => by
          subst hd
          obtain ⟨i, rfl, h0, h4⟩ := he
          exact ⟨_, ⟨2 + i, rfl, by omega, by omega⟩, fun x y T _ hx hy => ev_I0 hx hy⟩) (fun i hi => by omega)
        intro T0 l0 t0 R q
        refine z T0 l0 t0 R fun ds J U hd lU tU hJ => q ds J U ?_ lU (tU.less (by omega)) hJ
        obtain ⟨i, hi, rfl⟩ := hd
        refine ⟨(List.range i.toNat).map fun k => 0 + (k : Nat), ?_, by simp; omega, by simp; omega⟩
        unfold rngD
        rw [List.map_map]
        rfl
      · refine en_u (fun x => tOp rIxS (tC (.str "LRNU")) x) (fun _ _ _ _ => rfl) (dr _ _ _ _ m 4 hE' rfl rfl (l'.g.seq hs2) (by decide)) fun d hd => ?_
        obtain ⟨i, rfl, h0, h4⟩ := hd
        have : i = 0 ∨ i = 1 ∨ i = 2 ∨ i = 3 := by omega
        rcases this with rfl | rfl | rfl | rfl
        · exact ⟨_, ⟨76, rfl, by decide⟩, fun y T g hy => ev_ixS ev_cs hy rfl (by decide)⟩
        · exact ⟨_, ⟨82, rfl, by decide⟩, fun y T g hy => ev_ixS ev_cs hy rfl (by decide)⟩
        · exact ⟨_, ⟨78, rfl, by decide⟩, fun y T g hy => ev_ixS ev_cs hy rfl (by decide)⟩
        · exact ⟨_, ⟨85, rfl, by decide⟩, fun y T g hy => ev_ixS ev_cs hy rfl (by decide)⟩
      · obtain ⟨xs, ds, hx, rfl, hp⟩ := hd
        obtain ⟨cs, rfl, e1, e2⟩ := pair_chars hp
        refine ⟨cs.map fun c => ⟨#[c]⟩, by rw [List.map_map]; rfl, ?_, _, rfl, ?_⟩
        · rw [List.map_map]
          have z : (cs.map ((fun x : Str => x.length) ∘ fun c => (⟨#[c]⟩ : Str))).sum = cs.length := by
            have y : ((fun x : Str => x.length) ∘ fun c => (⟨#[c]⟩ : Str)) = fun _ => 1 := rfl
            rw [y]
            clear e1 e2 hp
            induction cs with
            | nil => rfl
            | cons c cs ih => rw [List.map_cons, List.sum_cons, ih, List.length_cons]; omega
          rw [z]
          have : (("" : Str)).length = 0 := rfl
          rw [this]
          omega
        · rw [join0]
          exact ruleOk_of (by omega) (by omega) e2
    · obtain ⟨r, rfl, hr⟩ := hd
      exact h1 r v T3 hr (Lt.trans (Lt.trans (l1.lm _) l2 t1.has) l3 t2.has) t3 o
end

end MW

set_option Elab.async false
set_option linter.all false
set_option maxRecDepth 100000
set_option maxHeartbeats 4000000
namespace MW
open PySem PySem.Spec PyProof.Rows L2
local macro_rules | `(tactic| walk_at "ev") => `(tactic| first
  | (refine ev_var (by assumption) ?_; rfl)
  | (refine ev_varv (by assumption) ?_; rfl)
  | exact ev_ci
  | exact ev_cs
  | exact ev_cb
  | exact ev_cn
  | exact eb_yes
  | exact ea_nil
  | exact ea_d0
  | exact eo_none
  | (apply ea_cons <;> walk_at "ev")
  | (apply eo_some <;> walk_at "ev")
  | (apply ev_I0 <;> walk_at "ev")
  | (apply ev_B0 <;> walk_at "ev")
  | (apply ev_chain <;> walk_at "ev")
  | (apply ev_neg <;> walk_at "ev")
  | (apply ev_lenL <;> walk_at "ev")
  | (apply ev_lenT <;> walk_at "ev")
  | (apply eb_test <;> walk_at "ev")
  | (apply eb_B <;> walk_at "ev")
  | (apply eb_not <;> walk_at "ev")
  | (apply ev_notV <;> walk_at "ev")
  | (apply ev_tup <;> walk_at "ev")
  | (apply ea_ds <;> walk_at "ev")
  | (apply ev_ixT <;> walk_at "ev")
  | (apply ev_ixL <;> walk_at "ev")
  | (apply ev_eqD <;> walk_at "ev")
  | (apply ev_neD <;> walk_at "ev")
  | (apply ev_inS <;> walk_at "ev")
  | (apply ev_isN <;> walk_at "ev")
  | (apply ev_notN <;> walk_at "ev")
  | (apply ev_andV <;> walk_at "ev")
  | (apply ev_orV <;> walk_at "ev")
  | (apply eb_and <;> walk_at "ev")
  | (apply eb_or <;> walk_at "ev")
  | (apply ev_I <;> walk_at "ev")
  | (apply ev_lenS <;> walk_at "ev")
  | (apply ev_all <;> walk_at "ev")
  | (apply ev_any <;> walk_at "ev")
  | (intro _; walk_at "ev")
  | rfl
  | (with_reducible assumption)
  | decide
  | omega)
theorem sc__law_state : FnScope ["script", "town", "rule", "far", "mid", "k", "walker", "found", "place", "j", "floor"] ["script", "town", "rule"] (defScope (top 30)) := ⟨rfl, rfl, rfl, by decide +kernel, rfl, by decide +kernel, by decide +kernel⟩
section
variable {P : Program} {w : World} {K : PySem.W.Frag} {mg : Str → Option Value} {base : Heap}
theorem k__law_state (T : Tx K mg) (D : Def K mg "_law_state" (top 30)) (F__law_draw : FnK P w K mg base 3 "_law_draw" ["script", "town", "many"] (sp__law_draw K)) (F__law_pick : FnK P w K mg base 4 "_law_pick" ["script", "town", "some"] (sp__law_pick K)) : FnK P w K mg base 5 "_law_state" ["script", "town", "rule"] (sp__law_state K) := by
  refine fn_mk D sc__law_state (fun vs H Q E h => ?_) (fun _ _ _ _ _ _ us hl => match us, hl with | [_, _, _], _ => rfl) (fun f cdv A outer s H vs Q E hr h => ?_)
  · obtain ⟨S, a, t, ns, r, b, rfl, hv, _⟩ := h
    exact hv.len
  obtain ⟨S, a, t, ns, r, b, rfl, hv, hs, hro, ht, h1⟩ := h
  refine ⟨_, (pss_cons (ps_set (i := 3) sc__law_state.nd rfl (Or.inr rfl) (pe_fn F__law_pick (hr.mono (by decide)) (passes_call (takes_of rfl rfl rfl rfl) (fun _ _ _ _ h => h)) (pa_cons (pv 0) (pa_cons (pv 1) (pa_cons (pe_lst (pa_cons pe_int (pa_cons pe_int (pa_cons pe_int pa_nil)))) pa_nil)))))
      (pss_cons (ps_set (i := 4) sc__law_state.nd rfl (Or.inr rfl) (pe_lc (own := [("k", 5)]) rfl sc__law_state.nd (pi_range1 rfl T.range (pa_cons pe_int pa_nil)) (blkOk_by (N := ["script", "town", "rule", "far", "mid", "k", "walker", "found", "place", "j", "floor"]) (sc := defScope (top 30)) (by decide +kernel)) (fun _ _ _ _ _ => (pg_name (i := 5) sc__law_state.nd rfl (Or.inl rfl))) (fun _ _ _ _ _ => pts_nil) (fun _ _ _ _ _ => (pe_ifExp (pt_cmpR op_lt (pv 3) pe_int (nomark _)) (pe_fn F__law_pick (hr.mono (by decide)) passL (pa_cons (pv 0) (pa_cons (pv 1) (pa_cons (pe_lst (pa_cons pe_int (pa_cons pe_int (pa_cons pe_int (pa_cons (pe_un un_neg pe_int) pa_nil))))) pa_nil)))) pe_int))))
      (pss_cons (ps_setLc (i := 6) (own := [("k", 5)]) rfl sc__law_state.nd rfl rfl (sw_true rfl rfl rfl (by decide +kernel)) (pi_range1 rfl T.range (pa_cons pe_int pa_nil)) (blkOk_by (N := ["script", "town", "rule", "far", "mid", "k", "walker", "found", "place", "j", "floor"]) (sc := defScope (top 30)) (by decide +kernel)) (fun _ _ _ _ _ => (pg_name (i := 5) sc__law_state.nd rfl (Or.inl rfl))) (fun _ _ _ _ _ => pts_nil) (fun _ _ _ _ _ => (pe_callB (call_max2 rfl) (by rfl) T.max (by decide +kernel) (pa_cons (pe_un un_neg pe_int) (pa_cons (pe_callB (call_min2 rfl) (by rfl) T.min (by decide +kernel) (pa_cons pe_int (pa_cons (pe_op op_sub (pe_op op_add (pe_ix (kx_list (K := K)) (pv 4) (pv 5) (fun _ _ => rfl)) (pe_fn F__law_draw (hr.mono (by decide)) passL (pa_cons (pv 0) (pa_cons (pv 1) (pa_cons (pe_op op_add (pe_op op_mul pe_int (pv 3)) pe_int) pa_nil))))) (pv 3)) pa_nil))) pa_nil)))))
      (pss_cons (ps_set (i := 7) sc__law_state.nd rfl (Or.inr rfl) pe_dnewT)
      (pss_cons (ps_for (passes_of rfl) rfl (pi_range1 rfl T.range (pa_cons (pe_fn F__law_draw (hr.mono (by decide)) (passes_call (takes_of rfl rfl rfl rfl) (fun _ _ _ _ h => h)) (pa_cons (pv 0) (pa_cons (pv 1) (pa_cons (pe_fn F__law_pick (hr.mono (by decide)) (passes_call (takes_of rfl rfl rfl rfl) (fun _ _ _ _ h => h)) (pa_cons (pv 0) (pa_cons (pv 1) (pa_cons (pe_lst (pa_cons pe_int (pa_cons pe_int (pa_cons pe_int (pa_cons pe_int (pa_cons (pe_ifExp (pt_cmpR (kr_eqD (K := K) hr.units) (pv 3) pe_int (nomark _)) pe_int pe_int) pa_nil)))))) pa_nil)))) pa_nil)))) pa_nil)) (pg_name (i := 5) sc__law_state.nd rfl (Or.inl rfl)) (pss_cons (ps_setLc (i := 8) (own := [("j", 9)]) rfl sc__law_state.nd rfl rfl (sw_true rfl rfl rfl (by decide +kernel)) (pi_range1 rfl T.range (pa_cons pe_int pa_nil)) (blkOk_by (N := ["script", "town", "rule", "far", "mid", "k", "walker", "found", "place", "j", "floor"]) (sc := defScope (top 30)) (by decide +kernel)) (fun _ _ _ _ _ => (pg_name (i := 9) sc__law_state.nd rfl (Or.inl rfl))) (fun _ _ _ _ _ => pts_nil) (fun _ _ _ _ _ => (pe_callB (call_max2 rfl) (by rfl) T.max (by decide +kernel) (pa_cons (pe_un un_neg pe_int) (pa_cons (pe_callB (call_min2 rfl) (by rfl) T.min (by decide +kernel) (pa_cons pe_int (pa_cons (pe_op op_sub (pe_op op_add (pe_ix (kx_list (K := K)) (pv 4) (pv 9) (fun _ _ => rfl)) (pe_fn F__law_draw (hr.mono (by decide)) passL (pa_cons (pv 0) (pa_cons (pv 1) (pa_cons (pe_op op_add (pe_op op_mul pe_int (pv 3)) pe_int) pa_nil))))) (pv 3)) pa_nil))) pa_nil)))))
      (pss_one (ps_dput (hu_of hr) (pv 7) (pe_callTy (kr_tupOf (K := K)) (by rfl) T.tuple (by decide +kernel) (pa_cons (pv 8) pa_nil)) (pe_op op_add pe_int (pe_fn F__law_draw (hr.mono (by decide)) (passes_call (takes_of rfl rfl rfl rfl) (fun _ _ _ _ h => h)) (pa_cons (pv 0) (pa_cons (pv 1) (pa_cons (pe_op op_sub (pe_callB (kr_len (K := K)) (by rfl) T.len (by decide +kernel) (pa_cons (pv 2) pa_nil)) pe_int) pa_nil))))) rfl))))
      (pss_cons (ps_set (i := 10) sc__law_state.nd rfl (Or.inl rfl) (pe_callB (kr_sortD (K := K) hr.units) (by rfl) T.sorted (by decide +kernel) (pa_cons (pe_lock (pe_lc (own := [("place", 8)]) rfl sc__law_state.nd (pi_keysT (pv 7)) (blkOk_by (N := ["script", "town", "rule", "far", "mid", "k", "walker", "found", "place", "j", "floor"]) (sc := defScope (top 30)) (by decide +kernel)) (fun _ _ _ _ _ => (pg_name (i := 8) sc__law_state.nd rfl (Or.inl rfl))) (fun _ _ _ _ _ => pts_nil) (fun _ _ _ _ _ => (pe_op (kr_catT (K := K)) (pv 8) (pe_tup (pa_cons (pe_dget (hu_of hr) (pv 7) (pv 8) (fun _ _ => rfl)) pa_nil)))))) pa_nil)))
      (pss_one (ps_ret (pe_tup (pa_cons (pe_tup (pa_cons (pe_ix (kx_list (K := K)) (pv 6) pe_int (fun _ _ => rfl)) (pa_cons (pe_ix (kx_list (K := K)) (pv 6) pe_int (fun _ _ => rfl)) (pa_cons (pe_fn F__law_draw (hr.mono (by decide)) (passes_call (takes_of rfl rfl rfl rfl) (fun _ _ _ _ h => h)) (pa_cons (pv 0) (pa_cons (pv 1) (pa_cons pe_int pa_nil)))) pa_nil)))) (pa_cons (pv 10) pa_nil))))))))))), ?_⟩
  have hE := Sv.start (N := ["script", "town", "rule", "far", "mid", "k", "walker", "found", "place", "j", "floor"]) (n := 8) hv rfl
  have rl := ruleOk_len hro
  -- far
  refine st_asgN (K := K) (b1 := b + 699) hE ht (en_imp (en_pick (b := b + 699) (ds := [.int 2, .int 6, .int 100]) (fun T g => by have hE' := hE.up g; exact ea_cons (ev_varv hE' rfl) (ea_cons (ev_varv hE' rfl) (ea_cons (ev_lst (ea_ds ev_ci (ea_ds ev_ci (ea_ds ev_ci ea_d0))) (by decide)) ea_nil))) hs (by decide)) (Ψ := fun d => ∃ far : Int, d = .int far ∧ 0 < far ∧ far ≤ 100) fun d hd => ?_) fun d1 σ1 T1 hd1 l1 t1 hE1 => ?_
  · simp only [List.mem_cons, List.not_mem_nil, or_false] at hd
    rcases hd with rfl | rfl | rfl <;> exact ⟨_, rfl, by decide, by decide⟩
  obtain ⟨far, rfl, f0, f1⟩ := hd1
  have hs1 := l1.g.seq hs
  clear hE
  dsimp only
  have rng2 : ∀ (σ : L2.St) (T : Sit) (c : Nat), EvIN K t (iRng1 (tCons (tC (.int 2)) tNil)) σ T c c (fun ds => ∃ xs : List Int, ds = xs.map (fun i => .int i) ∧ xs = [0, 1]) := fun σ T c =>
    ein_imp (ein_pure fun T' _ => ei_rng1 (j := 2) (ea_cons ev_ci ea_nil) (by decide) (by decide)) (Nat.le_refl _) fun ds hd => ⟨[0, 1], hd, rfl⟩
  -- mid
  refine st_asgN (K := K) (b1 := b + 697) hE1 t1 (Φ := fun d => ∃ m0 m1 : Int, d = .list [.int m0, .int m1]) (en_imp (en_lc (α := Int) (N := 2) (c := 1) (b := b + 699) (b1 := b + 697) (Ψs := fun xs => xs = [0, 1]) (Φx := fun _ d => ∃ i, d = .int i ∧ True) hE1 (rng2 _ _ _) (fun xs h => by rw [h]; decide) (by decide) (fun i => [(5, .int i)]) (fun _ _ _ _ => tg_name) (fun _ _ _ _ q hq => by simp at hq; subst hq; simp) (fun xs _ x _ m σ' T' l' hE' => ?_)) fun d hd => ?_) fun d2 σ2 T2 hd2 l2 t2 hE2 => ?_
  · refine en_if (c := decide (far < 100)) (fun T g => eb_test (ev_B0 (ev_var (hE'.up g) rfl) ev_ci)) (fun _ => en_imp (en_pick (b := m) (ds := [.int 0, .int 0, .int 97, .int (-98)]) (fun T g => ea_cons (ev_varv (hE'.up g) rfl) (ea_cons (ev_varv (hE'.up g) rfl) (ea_cons (ev_lst (ea_ds ev_ci (ea_ds ev_ci (ea_ds ev_ci (ea_ds (ev_neg ev_ci) ea_d0)))) (by decide)) ea_nil))) (l'.g.seq hs1) (by decide)) fun d hd => ?_) (fun _ => en_less (en_imp (en_pure fun T _ => ev_ci (i := 0)) fun d hd => ⟨_, hd, trivial⟩) (by omega))
    simp only [List.mem_cons, List.not_mem_nil, or_false] at hd
    rcases hd with rfl | rfl | rfl | rfl <;> exact ⟨_, rfl, trivial⟩
  · obtain ⟨xs, ds, hx, rfl, hp⟩ := hd
    obtain ⟨ms, rfl, e1, e2⟩ := pair_ints hp
    obtain ⟨i, j, rfl, _, _⟩ := two_of (e1.trans (by rw [hx]; rfl)) e2
    exact ⟨i, j, rfl⟩
  obtain ⟨m0, m1, rfl⟩ := hd2
  have hs2 := l2.g.seq hs1
  clear hE1
  dsimp only
  -- walker
  refine st_asgN (K := K) (b1 := b + 695) hE2 t2 (Φ := fun d => ∃ x y : Int, d = .list [.int x, .int y] ∧ (-100 ≤ x ∧ x ≤ 100) ∧ -100 ≤ y ∧ y ≤ 100) (en_imp (en_lc (α := Int) (N := 2) (c := 1) (b := b + 697) (b1 := b + 695) (Ψs := fun xs => xs = [0, 1]) (Φx := fun _ d => ∃ i, d = .int i ∧ -100 ≤ i ∧ i ≤ 100) hE2 (rng2 _ _ _) (fun xs h => by rw [h]; decide) (by decide) (fun i => [(5, .int i)]) (fun _ _ _ _ => tg_name) (fun _ _ _ _ q hq => by simp at hq; subst hq; simp) (fun xs hxs x hx m σ' T' l' hE' => ?_)) fun d hd => ?_) fun d3 σ3 T3 hd3 l3 t3 hE3 => ?_
  · exact en_coord (k := x) hE' rfl rfl rfl rfl rfl (by rw [hxs] at hx; simpa using hx) (l'.g.seq hs2) f0 rfl rfl (.inl ⟨by decide, by decide⟩)
  · obtain ⟨xs, ds, hx, rfl, hp⟩ := hd
    obtain ⟨ms, rfl, e1, e2⟩ := pair_ints hp
    obtain ⟨i, j, rfl, h2, h3⟩ := two_of (e1.trans (by rw [hx]; rfl)) e2
    exact ⟨i, j, rfl, h2, h3⟩
  obtain ⟨wx, wy, rfl, hwx, hwy⟩ := hd3
  have hs3 := l3.g.seq hs2
  have lt3 : Lt t S T3 := Lt.trans (Lt.trans l1 l2 t1.has) l3 t2.has
  clear hE2
  dsimp only
  -- found
  refine st_dictN (γ := Int) hE3 fun p σ4 T4 l4 np d4 hE4 => ?_
  have t4 := t3.up l4
  have hs4 := l4.g.seq hs3
  have lt4 : Lt t S T4 := Lt.trans lt3 (l4.lm _) t3.has
  have hpS : S.H p = none := Lt.new lt3 np t3.has
  have hpt : p ≠ t := fun e => by
    obtain ⟨o, ho⟩ := t3.has
    exact np t o ho e.symm
  clear hE3
  dsimp only
  -- the loop
  refine st_forN (K := K) (t := t) (b := b + 695) (b1 := b + 601) t4 (Φ := fun ds => ∃ n : Nat, n ≤ 200 ∧ ds = rngD 0 n) ?_ (fun ds n σ' T' => Lt t S T' ∧ Town T' t (b + 1 + (200 - n) * 3) ∧ (∃ D : Dd Int, Dc T' p D ∧ Nk D ∧ D.length ≤ n ∧ ∀ q ∈ D, markOk r.length (mkOf q) = true) ∧ SqL K T'.G a (ns.map V.int) ∧ Sv K T'.G σ' [.v (.ref a), .v (.ref t), .d (.str r), .d (.int far), .d (.list [.int m0, .int m1]), .non, .d (.list [.int wx, .int wy]), .v (.ref p), .non, .non, .non]) ?_ ?_ ?_
  · refine ein_imp (b1 := b + 693) (ein_rng1 (φ := fun i => 0 ≤ i ∧ i ≤ 200) (en_imp (en_drawD (ψ := fun m => 0 < m ∧ m ≤ 201) (b1 := b + 693) hE4 rfl rfl (en_imp (en_pick (b := b + 694) (ds := [.int 1, .int 6, .int 6, .int 40, .int (if far = 100 then 201 else 40)]) (fun T g => by
        have hE' := hE4.up g
        refine ea_cons (ev_varv hE' rfl) (ea_cons (ev_varv hE' rfl) (ea_cons (ev_lst (ea_ds ev_ci (ea_ds ev_ci (ea_ds ev_ci (ea_ds ev_ci (ea_ds ?_ ea_d0))))) (by show 5 ≤ _; decide)) ea_nil))
        refine ev_if (b := decide (far = 100)) (eb_test (ev_is (ev_eqD (ev_var hE' rfl) ev_ci rfl rfl) (by rw [eqv_ints]))) (fun e => ?_) (fun e => ?_)
        · rw [if_pos (of_decide_eq_true e)]; exact ev_ci
        · rw [if_neg (of_decide_eq_false e)]; exact ev_ci) hs4 (by show 0 < 5; decide)) fun d hd => ?_) (fun m h => h.1) hs4) fun d hd => ?_) (fun i hi => by omega)) (by omega) fun ds hd => ?_
    · simp only [List.mem_cons, List.not_mem_nil, or_false] at hd
      rcases hd with rfl | rfl | rfl | rfl | rfl
      · exact ⟨_, rfl, by decide, by decide⟩
      · exact ⟨_, rfl, by decide, by decide⟩
      · exact ⟨_, rfl, by decide, by decide⟩
      · exact ⟨_, rfl, by decide, by decide⟩
      · exact ⟨_, rfl, by split <;> decide, by split <;> decide⟩
    · obtain ⟨x, m, rfl, hm, h0, h2⟩ := hd
      exact ⟨x, rfl, h0, by omega⟩
    · obtain ⟨i, hi, rfl⟩ := hd
      exact ⟨i.toNat, by omega, rfl⟩
  · rintro ds U ⟨n, hn, rfl⟩ lU tU
    refine ⟨Lt.trans lt4 lU t4.has, tU.less (by omega), ⟨[], d4.lm lU (by simp [hpt]), List.nodup_nil, by decide, fun q hq => nomatch hq⟩, lU.g.seq hs4, hE4.up lU.g⟩
  · rintro ds n d σ' T' v ⟨N, hN, rfl⟩ hn ⟨lI, tI, ⟨D, dI, nk, dl, dg⟩, hsI, hEI⟩ hv
    obtain ⟨hn1, rfl⟩ := rngD_get hn
    refine tg_name v σ' T' _ hv fun σ5 hE5 _ => ?_
    have hE5 := hE5 _ hEI
    have bud : b + 1 + (200 - n) * 3 = (b + 1 + (200 - (n + 1)) * 3 + 1) + 2 := by omega
    rw [bud] at tI
    refine st_asgN (K := K) (b1 := b + 1 + (200 - (n + 1)) * 3 + 1) hE5 tI (Φ := fun d => ∃ x y : Int, d = .list [.int x, .int y] ∧ (-100 ≤ x ∧ x ≤ 100) ∧ -100 ≤ y ∧ y ≤ 100) (en_imp (en_lc (α := Int) (N := 2) (c := 1) (b1 := b + 1 + (200 - (n + 1)) * 3 + 1) (Ψs := fun xs => xs = [0, 1]) (Φx := fun _ d => ∃ i, d = .int i ∧ -100 ≤ i ∧ i ≤ 100) hE5 (rng2 _ _ _) (fun xs h => by rw [h]; decide) (by decide) (fun i => [(9, .int i)]) (fun _ _ _ _ => tg_name) (fun _ _ _ _ q hq => by simp at hq; subst hq; simp) (fun xs hxs x hx m σ' T' l' hE' => ?_)) fun d hd => ?_) fun d6 σ6 T6 hd6 l6 t6 hE6 => ?_
    · exact en_coord (k := x) hE' rfl rfl rfl rfl rfl (by rw [hxs] at hx; simpa using hx) (l'.g.seq hsI) f0 rfl rfl (.inl ⟨by decide, by decide⟩)
    · obtain ⟨xs, ds, hx, rfl, hp⟩ := hd
      obtain ⟨ms, rfl, e1, e2⟩ := pair_ints hp
      obtain ⟨i, j, rfl, h2, h3⟩ := two_of (e1.trans (by rw [hx]; rfl)) e2
      exact ⟨i, j, rfl, h2, h3⟩
    obtain ⟨px, py, rfl, hpx, hpy⟩ := hd6
    have d6 := dI.lm l6 (by simp [hpt])
    have hs6 := l6.g.seq hsI
    dsimp only
    refine st_dputN (K := K) (γ := Int) (p := (px, py)) (b1 := b + 1 + (200 - (n + 1)) * 3) (Φ := fun c => 1 ≤ c ∧ c < (r.length : Int)) (t := t) ?_ t6 hpt (fun T g => ev_varv (hE6.up g) rfl) (fun T g => ev_tupOf (ds := [.int px, .int py]) (ev_var (hE6.up g) rfl)) d6 (by omega) fun c T7 hc l7 t7 d7 => ?_
    · refine en_b (fun x y => tOp _ x y) (fun _ _ _ _ _ => rfl) (en_pure fun T _ => ev_ci (i := 1)) (en_draw (many := (r.length : Nat) - 1) (fun T g => ea_cons (ev_varv (hE6.up g) rfl) (ea_cons (ev_varv (hE6.up g) rfl) (ea_cons (ev_I0 (ev_lenS (ev_var (hE6.up g) rfl) (by omega)) ev_ci) ea_nil))) hs6 (by omega)) fun d e hd he => ?_
      subst hd
      obtain ⟨i, rfl, h0, h2⟩ := he
      exact ⟨_, ⟨1 + i, rfl, by omega, by omega⟩, fun x y T _ hx hy => ev_I0 hx hy⟩
    · refine ⟨T7, rfl, l6.g.trans l7.g, Lt.transP (Lt.trans lI l6 tI.has) l7 hpS t6.has, t7, ⟨dput D (px, py) c, d7, nk.put _ _, by have := dput_len D (px, py) c; omega, dput_all dg ?_⟩, l7.g.seq hs6, ((hE6.up l7.g).forget 5).forget 8⟩
      unfold markOk mkOf
      simp only [Bool.and_eq_true, decide_eq_true_eq]
      omega
  · rintro ds σ' T' ⟨N, hN, rfl⟩ ⟨lI, tI, ⟨D, dI, nk, dl, dg⟩, hsI, hEI⟩
    rw [rngD_len] at dl
    dsimp only
    -- floor
    refine st_asg (s := .d (eF (sortM (D.map mkOf)))) hEI ?_ fun σ8 T8 l8 hE8 => ?_
    · refine ev_sortM ?_
      refine ev_lock dI fun T9 o l9 sg gd => ?_
      have hE9 : Sv K (T9.lock p o (.dT (D.map eDk))).G σ' _ := hEI.up sg
      rw [List.map_map]
      refine ev_lcm (xs := D) (enc := fun q => eP q.1) hE9 (ei_keys (ev_varv hE9 rfl) gd) (fun q => [(8, eP q.1)]) _ (fun q _ => tg_name) (fun q _ z hz => by simp at hz; subst hz; simp) (fun q hq σ'' T'' l'' hE'' => ?_) (by omega)
      exact ev_catT (xs := [.int q.1.1, .int q.1.2]) (ys := [.int q.2]) (ev_var hE'' rfl) (ev_tup (ea_ds (ev_dgetL (ev_varv hE'' rfl) (l''.g _ _ gd) (p := q.1) (ev_var hE'' rfl) (dget_of nk hq)) ea_d0) (by show 1 ≤ _; decide)) (by simp) (by simp) (by show 3 ≤ _; decide)
    have t8 := tI.up l8
    have hs8 := l8.g.seq hsI
    dsimp only
    refine st_retN (K := K) (b := b + 1 + (200 - (rngD 0 N).length) * 3) (b1 := b) (Φ := fun d => ∃ h, d = .tuple [eW [wx, wy, h], eF (sortM (D.map mkOf))] ∧ 0 ≤ h ∧ h < 4) t8 ?_ fun d v T9 hd l9 t9 o => ?_
    · have hd := en_draw (K := K) (t := t) (E := E) (S := T8) (b := b + (200 - (rngD 0 N).length) * 3) (σ := σ8) (many := 4) (tr := tCons (tVar 0) (tCons (tVar 1) (tCons (tC (.int 4)) tNil))) (fun T g => ea_cons (ev_varv (hE8.up g) rfl) (ea_cons (ev_varv (hE8.up g) rfl) (ea_cons ev_ci ea_nil))) hs8 (by decide)
      have hw := en_tup (en_cons (en_pure fun T g => ev_ixL (i := 0) (ds := [.int wx, .int wy]) (ev_var (i := 6) (hE8.up g) rfl) ev_ci rfl) (en_cons (en_pure fun T g => ev_ixL (i := 1) (ds := [.int wx, .int wy]) (ev_var (i := 6) (hE8.up g) rfl) ev_ci rfl) (en_cons hd en_nil))) (fun ds h => by obtain ⟨_, _, rfl, _, _, _, rfl, _, _, _, rfl, _, rfl⟩ := h; show 3 ≤ _; decide)
      have hr := en_tup (en_cons hw (en_cons (en_pure fun T g => ev_var (i := 10) (hE8.up g) rfl) en_nil)) (fun ds h => by obtain ⟨_, _, rfl, _, _, _, rfl, _, rfl⟩ := h; show 2 ≤ _; decide)
      rw [show b + 1 + (200 - (rngD 0 N).length) * 3 = b + (200 - (rngD 0 N).length) * 3 + 1 by omega]
      refine en_less (en_imp hr fun d h => ?_) (by omega)
      obtain ⟨_, rfl, _, _, rfl, ⟨_, rfl, _, _, rfl, rfl, _, _, rfl, rfl, _, _, rfl, ⟨i, rfl, i0, i1⟩, rfl⟩, _, _, rfl, rfl, rfl⟩ := h
      exact ⟨i, rfl, i0, i1⟩
    · obtain ⟨h, rfl, h0, h4⟩ := hd
      refine h1 wx wy h (sortM (D.map mkOf)) v T9 ?_ ?_ (Lt.trans (Lt.trans lI (l8.lm _) tI.has) l9 t8.has) t9 o
      · unfold wOk
        simp only [Bool.and_eq_true, decide_eq_true_eq]
        omega
      · have pm := sortM_perm (D.map mkOf)
        refine floorOk_of ?_ (fun m hm => ?_) (sortM_rise ?_)
        · rw [pm.length_eq, List.length_map]; omega
        · obtain ⟨q, hq, rfl⟩ := List.mem_map.mp (pm.mem_iff.mp hm)
          exact dg q hq
        · rw [mkOf_places]
          exact nk
end

end MW

set_option Elab.async false
set_option linter.all false
set_option maxRecDepth 100000
set_option maxHeartbeats 4000000
namespace MW
open PySem PySem.Spec PyProof.Rows L2
local macro_rules | `(tactic| walk_at "ev") => `(tactic| first
  | (refine ev_var (by assumption) ?_; rfl)
  | (refine ev_varv (by assumption) ?_; rfl)
  | exact ev_ci
  | exact ev_cs
  | exact ev_cb
  | exact ev_cn
  | exact eb_yes
  | exact ea_nil
  | exact ea_d0
  | exact eo_none
  | (apply ea_cons <;> walk_at "ev")
  | (apply eo_some <;> walk_at "ev")
  | (apply ev_I0 <;> walk_at "ev")
  | (apply ev_B0 <;> walk_at "ev")
  | (apply ev_chain <;> walk_at "ev")
  | (apply ev_neg <;> walk_at "ev")
  | (apply ev_lenL <;> walk_at "ev")
  | (apply ev_lenT <;> walk_at "ev")
  | (apply eb_test <;> walk_at "ev")
  | (apply eb_B <;> walk_at "ev")
  | (apply eb_not <;> walk_at "ev")
  | (apply ev_notV <;> walk_at "ev")
  | (apply ev_tup <;> walk_at "ev")
  | (apply ea_ds <;> walk_at "ev")
  | (apply ev_ixT <;> walk_at "ev")
  | (apply ev_ixL <;> walk_at "ev")
  | (apply ev_eqD <;> walk_at "ev")
  | (apply ev_neD <;> walk_at "ev")
  | (apply ev_inS <;> walk_at "ev")
  | (apply ev_isN <;> walk_at "ev")
  | (apply ev_notN <;> walk_at "ev")
  | (apply ev_andV <;> walk_at "ev")
  | (apply ev_orV <;> walk_at "ev")
  | (apply eb_and <;> walk_at "ev")
  | (apply eb_or <;> walk_at "ev")
  | (apply ev_I <;> walk_at "ev")
  | (apply ev_lenS <;> walk_at "ev")
  | (apply ev_all <;> walk_at "ev")
  | (apply ev_any <;> walk_at "ev")
  | (intro _; walk_at "ev")
  | rfl
  | (with_reducible assumption)
  | decide
  | omega)
theorem sc_look_all : FnScope ["rule", "walker", "floor"] ["rule", "walker", "floor"] (defScope (top 14)) := ⟨rfl, rfl, rfl, by decide +kernel, rfl, by decide +kernel, by decide +kernel⟩
section
variable {P : Program} {w : World} {K : PySem.W.Frag} {mg : Str → Option Value} {base : Heap}
theorem k_look_all (T : Tx K mg) (D : Def K mg "look_all" (top 14)) (F_look_rule : FnK P w K mg base 1 "look_rule" ["rule"] (sp_look_rule K)) (F_look_walker : FnK P w K mg base 1 "look_walker" ["walker"] (sp_look_walker K)) (F_look_floor : FnK P w K mg base 1 "look_floor" ["rule", "floor"] (sp_look_floor K)) : FnK P w K mg base 2 "look_all" ["rule", "walker", "floor"] (sp_look_all K) := by
  refine fn_mk D sc_look_all (fun vs H Q E h => ?_) (fun _ _ _ _ _ _ us hl => match us, hl with | [_, _, _], _ => rfl) (fun f cdv A outer s H vs Q E hr h => ?_)
  · obtain ⟨S, r, w, fl, rfl, hv, _⟩ := h
    exact hv.len
  obtain ⟨S, r, w, fl, rfl, hv, hz, h1, h2⟩ := h
  refine ⟨_, (pss_cons (ps_expr (pe_fn F_look_rule (hr.mono (by decide)) (passes_call (takes_of rfl rfl rfl rfl) (fun _ _ _ _ h => h)) (pa_cons (pv 0) pa_nil)))
      (pss_cons (ps_expr (pe_fn F_look_walker (hr.mono (by decide)) (passes_call (takes_of rfl rfl rfl rfl) (fun _ _ _ _ h => h)) (pa_cons (pv 1) pa_nil)))
      (pss_one (ps_expr (pe_fn F_look_floor (hr.mono (by decide)) (passes_call (takes_of rfl rfl rfl rfl) (fun _ _ _ _ h => h)) (pa_cons (pv 0) (pa_cons (pv 2) pa_nil))))))), ?_⟩
  have hE := Sv.start (N := ["rule", "walker", "floor"]) hv rfl
  refine st_dropC (K := K) (ss := [.d (.str r)]) (by walk_at "ev") fun vs1 T1 l1 hv1 => ?_
  rw [List.append_nil]
  refine ⟨T1, r, rfl, hv1, hz.1, fun e1 T l => ?_, fun e1 T l => h2 _ (by unfold bad3; rw [if_pos e1]) T (l1.trans l)⟩
  have l1 := l1.trans l
  have hE1 := hE.up l1.g
  dsimp only
  refine st_dropC (K := K) (ss := [.d (eW w)]) (by walk_at "ev") fun vs2 T2 l2 hv2 => ?_
  rw [List.append_nil]
  refine ⟨T2, w, rfl, hv2, hz.2.1, fun e2 T l => ?_, fun e2 T l => h2 _ (by unfold bad3; rw [if_neg (by rw [e1]; decide), if_pos e2]) T ((l1.trans l2).trans l)⟩
  have l2 := (l1.trans l2).trans l
  have hE2 := hE.up l2.g
  dsimp only
  refine st_dropC (K := K) (ss := [.d (.str r), .d (eF fl)]) (by walk_at "ev") fun vs3 T3 l3 hv3 => ?_
  rw [List.append_nil]
  refine ⟨T3, r, fl, rfl, hv3, hz.1, hz.2.2, fun e3 T l => ?_, fun e3 T l => h2 _ (by unfold bad3; rw [if_neg (by rw [e1]; decide), if_neg (by rw [e2]; decide), if_pos e3]) T ((l2.trans l3).trans l)⟩
  exact h1 (by unfold bad3; rw [if_neg (by rw [e1]; decide), if_neg (by rw [e2]; decide), if_neg (by rw [e3]; decide)]) T ((l2.trans l3).trans l)
end
section
variable {P : Program} {w : World} {K : PySem.W.Frag} {mg : Str → Option Value} {base : Heap}
end
section
variable {P : Program} {w : World} {K : PySem.W.Frag} {mg : Str → Option Value} {base : Heap}
end
section
variable {P : Program} {w : World} {K : PySem.W.Frag} {mg : Str → Option Value} {base : Heap}
end

end MW

set_option Elab.async false
set_option linter.all false
set_option maxRecDepth 100000
set_option maxHeartbeats 4000000
namespace MW
open PySem PySem.Spec PyProof.Rows L2
local macro_rules | `(tactic| walk_at "ev") => `(tactic| first
  | (refine ev_var (by assumption) ?_; rfl)
  | (refine ev_varv (by assumption) ?_; rfl)
  | exact ev_ci
  | exact ev_cs
  | exact ev_cb
  | exact ev_cn
  | exact eb_yes
  | exact ea_nil
  | exact ea_d0
  | exact eo_none
  | (apply ea_cons <;> walk_at "ev")
  | (apply eo_some <;> walk_at "ev")
  | (apply ev_I0 <;> walk_at "ev")
  | (apply ev_B0 <;> walk_at "ev")
  | (apply ev_chain <;> walk_at "ev")
  | (apply ev_neg <;> walk_at "ev")
  | (apply ev_lenL <;> walk_at "ev")
  | (apply ev_lenT <;> walk_at "ev")
  | (apply eb_test <;> walk_at "ev")
  | (apply eb_B <;> walk_at "ev")
  | (apply eb_not <;> walk_at "ev")
  | (apply ev_notV <;> walk_at "ev")
  | (apply ev_tup <;> walk_at "ev")
  | (apply ea_ds <;> walk_at "ev")
  | (apply ev_ixT <;> walk_at "ev")
  | (apply ev_ixL <;> walk_at "ev")
  | (apply ev_eqD <;> walk_at "ev")
  | (apply ev_neD <;> walk_at "ev")
  | (apply ev_inS <;> walk_at "ev")
  | (apply ev_isN <;> walk_at "ev")
  | (apply ev_notN <;> walk_at "ev")
  | (apply ev_andV <;> walk_at "ev")
  | (apply ev_orV <;> walk_at "ev")
  | (apply eb_and <;> walk_at "ev")
  | (apply eb_or <;> walk_at "ev")
  | (apply ev_I <;> walk_at "ev")
  | (apply ev_lenS <;> walk_at "ev")
  | (apply ev_all <;> walk_at "ev")
  | (apply ev_any <;> walk_at "ev")
  | (intro _; walk_at "ev")
  | rfl
  | (with_reducible assumption)
  | decide
  | omega)
theorem sc__law_refusal : FnScope ["caught", "kinds"] ["caught"] (defScope (top 28)) := ⟨rfl, rfl, rfl, by decide +kernel, rfl, by decide +kernel, by decide +kernel⟩
section
variable {P : Program} {w : World} {K : PySem.W.Frag} {mg : Str → Option Value} {base : Heap}
theorem k__law_refusal (T : Tx K mg) (D : Def K mg "_law_refusal" (top 28)) : FnK P w K mg base 1 "_law_refusal" ["caught"] (sp__law_refusal K) := by
  refine fn_mk D sc__law_refusal (fun vs H Q E h => ?_) (fun _ _ _ _ _ _ us hl => match us, hl with | [_], _ => rfl) (fun f cdv A outer s H vs Q E hr h => ?_)
  · obtain ⟨S, a, x, rfl, hv, _⟩ := h
    exact hv.len
  obtain ⟨S, a, x, rfl, hv, hX, hx, h1⟩ := h
  refine ⟨_, (pss_cons (ps_if (pt_cmpR op_isN (pv 0) pe_non (nomark _)) (pss_one (ps_ret (pe_tup (pa_cons pe_str pa_nil)))) pss_nil)
      (pss_cons (ps_set (i := 1) sc__law_refusal.nd rfl (Or.inl rfl) (pe_lst (pa_cons (pe_callB (kr_isC (K := K)) (by rfl) T.isinstance (by decide +kernel) (pa_cons (pv 0) (pa_cons (pe_kref T.BadRule.g) pa_nil))) (pa_cons (pe_callB (kr_isC (K := K)) (by rfl) T.isinstance (by decide +kernel) (pa_cons (pv 0) (pa_cons (pe_kref T.BadFloor.g) pa_nil))) (pa_cons (pe_callB (kr_isC (K := K)) (by rfl) T.isinstance (by decide +kernel) (pa_cons (pv 0) (pa_cons (pe_kref T.BadWalker.g) pa_nil))) pa_nil)))))
      (pss_cons (ps_set (i := 1) sc__law_refusal.nd rfl (Or.inl rfl) (pe_op op_cat (pv 1) (pe_lst (pa_cons (pe_callB (kr_isC (K := K)) (by rfl) T.isinstance (by decide +kernel) (pa_cons (pv 0) (pa_cons (pe_kref T.BadNumber.g) pa_nil))) (pa_cons (pe_callB (kr_isC (K := K)) (by rfl) T.isinstance (by decide +kernel) (pa_cons (pv 0) (pa_cons (pe_kref T.BadText.g) pa_nil))) pa_nil)))))
      (pss_cons (ps_if (PW.pt (pw_or (pt_cmpR (kr_neD (K := K) hr.units) (kpe_bm (K := K) rfl PySem.F.plainAttrs_list PySem.F.slot_list_count PySem.F.type_list_count (mt_cntB (K := K)) (pv 1) (pa_cons pe_bl pa_nil)) pe_int (nomark _)) (pw_or1 (pt_not (pt_val (pe_callB (kr_isC (K := K)) (by rfl) T.isinstance (by decide +kernel) (pa_cons (pv 0) (pa_cons (pe_bltn (v := .ty "ValueError") (by rfl) T.ValueError (by decide +kernel) rfl) pa_nil)))))))) (pss_one (ps_ret (pe_tup (pa_cons pe_str pa_nil)))) pss_nil)
      (pss_one (ps_ret (pe_tup (pa_cons pe_str (pa_cons (pe_ix (kx_list (K := K)) (pe_lst (pa_cons pe_str (pa_cons pe_str (pa_cons pe_str (pa_cons pe_str (pa_cons pe_str pa_nil)))))) (kpe_bm (K := K) rfl PySem.F.plainAttrs_list PySem.F.slot_list_index PySem.F.type_list_index (ka_index (K := K)) (pv 1) (pa_cons pe_bl pa_nil)) (fun _ _ => rfl)) pa_nil))))))))), ?_⟩
  have hE := Sv.start (N := ["caught", "kinds"]) (n := 1) hv rfl
  have hs : PySem.W.subIn K (.ref (He.ga K x)) (.type "BaseException") = some true := by
    have h := hx
    unfold kinds5 at h
    simp only [List.mem_cons, List.not_mem_nil, or_false] at h
    rcases h with rfl | rfl | rfl | rfl | rfl
    · exact T.BadRule.b
    · exact T.BadFloor.b
    · exact T.BadWalker.b
    · exact T.BadNumber.b
    · exact T.BadText.b
  have C := T.kits.ex x hx hs
  have one : ∀ y ∈ kinds5, ∀ (σ : L2.St) (S' : Sit) (δ : List Sl), Le S S' → Sv K S'.G σ δ → δ[0]? = some (.v (.ref a)) → EvD K (tCB (rIsC K) (tCons (tVar 0) (tCons (tC (.ref (He.ga K y))) tNil))) σ S' (.bool (decide (x = y))) := fun y hy σ S' δ l hE' e =>
    ev_isC (ev_varv hE' e) (l.2.1 _ _ hX) C (fun u r => r) (T.kits.one x hx y hy)
  obtain ⟨j, j1, j2, j3, j4⟩ := kinds_ix hx
  apply st_if (K := K) (b := false)
  case hb => exact eb_test (ev_is (ev_isNv (v := .ref a) (ev_varv hE rfl)) rfl)
  case h1 => exact fun e => nomatch e
  case h2 =>
    intro _ T1 l1
    have hE1 := hE.up l1.g
    dsimp only [tNext]
    refine st_asg (s := .d (.list ([decide (x = "BadRule"), decide (x = "BadFloor"), decide (x = "BadWalker")].map PyData.bool))) hE1 (ev_lst (ea_ds (one _ (by decide) _ _ _ l1 hE1 rfl) (ea_ds (one _ (by decide) _ _ _ l1 hE1 rfl) (ea_ds (one _ (by decide) _ _ _ l1 hE1 rfl) ea_d0))) (by show 3 ≤ _; decide)) fun σ2 T2 l2 hE2 => ?_
    dsimp only
    have l2 := l1.trans l2
    refine st_asg (s := .d (.list (((kinds5.map fun y => decide (x = y))).map PyData.bool))) hE2 (ev_cat (xs := [decide (x = "BadRule"), decide (x = "BadFloor"), decide (x = "BadWalker")].map PyData.bool) (ys := [decide (x = "BadNumber"), decide (x = "BadText")].map PyData.bool) (ev_var hE2 rfl) (ev_lst (ea_ds (one _ (by decide) _ _ _ l2 hE2 rfl) (ea_ds (one _ (by decide) _ _ _ l2 hE2 rfl) ea_d0)) (by show 2 ≤ _; decide)) (by show 5 ≤ _; decide)) fun σ3 T3 l3 hE3 => ?_
    dsimp only
    have l3 := l2.trans l3
    apply st_if (K := K) (b := false)
    case hb =>
      refine eb_is (eb_or (a := false) (b := false) ?_ fun _ => ?_) rfl
      · refine eb_test (ev_is (ev_neD (ev_cntB (bs := kinds5.map fun y => decide (x = y)) (ev_var hE3 rfl)) ev_ci rfl rfl) ?_)
        rw [j3]
        rfl
      · exact eb_not (b := true) (eb_B (ev_isC (cv := .type "ValueError") (ev_varv hE3 rfl) (l3.2.1 _ _ hX) C (fun u r => r) (T.kits.ve x hx)))
    case h1 => exact fun e => nomatch e
    case h2 =>
      intro _ T4 l4
      have hE4 := hE3.up l4.g
      dsimp only [tNext]
      refine st_ret (s := .d (eRef x)) (ev_tup (ds := [.str "refused", .str (wordOf x)]) (ea_ds ev_cs (ea_ds (ev_ixL (ds := [.str "rule", .str "floor", .str "walker", .str "number", .str "text"]) (i := (j : Nat)) (ev_lst (ea_ds ev_cs (ea_ds ev_cs (ea_ds ev_cs (ea_ds ev_cs (ea_ds ev_cs ea_d0))))) (by decide)) (ev_idxB (bs := kinds5.map fun y => decide (x = y)) (ev_var hE4 rfl) j1 j2) j4) ea_d0)) (by show 2 ≤ _; decide)) fun v T5 l5 o => ?_
      exact h1 v T5 ((l3.trans l4).trans l5) o
end

end MW

set_option Elab.async false
set_option linter.all false
set_option maxRecDepth 100000
set_option maxHeartbeats 4000000
namespace MW
open PySem PySem.Spec PyProof.Rows L2
set_option autoImplicit false
open PySem.W (EachIs AllAlike Sortable dataLe)
/-! ### sorted whole numbers -/
def sortI (ns : List Int) : List Int := ns.mergeSort fun a b => decide (a ≤ b)
theorem srt_I (ns : List Int) : srt (ns.map PyData.int) = (sortI ns).map PyData.int := by
  rw [srt_map]
  congr 1
  unfold sortI
  congr 1
  exact PySem.W.dataLe_int fun b => b
theorem sortI_perm (ns : List Int) : (sortI ns).Perm ns := List.mergeSort_perm ns _
theorem sortI_le (ns : List Int) : (sortI ns).Pairwise fun a b => a ≤ b := by
  have z := List.pairwise_mergeSort (le := fun a b : Int => decide (a ≤ b)) (fun a b c h1 h2 => by simp only [decide_eq_true_eq] at h1 h2 ⊢; omega) (fun a b => by simp only [Bool.or_eq_true, decide_eq_true_eq]; omega) ns
  exact z.imp fun h => of_decide_eq_true h
theorem sortI_first {ns : List Int} (h : 0 < ns.length) : L2.atI ((sortI ns).map PyData.int) 0 = some (.int (minL ns)) := by
  have pm := sortI_perm ns
  have pw := sortI_le ns
  generalize sortI ns = l at pm pw
  cases l with
  | nil => have := pm.length_eq; simp at this; omega
  | cons a l =>
    have : minL ns = a := minL_is (pm.mem_iff.mp (by simp)) fun y hy => by
      rcases List.mem_cons.mp (pm.mem_iff.mpr hy) with rfl | hy
      · exact Int.le_refl _
      · exact (List.pairwise_cons.mp pw).1 y hy
    rw [this]
    unfold L2.atI ixN
    rw [if_pos (by decide), if_pos (by simp only [List.length_map, List.length_cons]; omega)]
    rfl
theorem sortI_last {ns : List Int} (h : 0 < ns.length) : L2.atI ((sortI ns).map PyData.int) (-1) = some (.int (maxL ns)) := by
  have pm := sortI_perm ns
  have pw := sortI_le ns
  generalize sortI ns = l at pm pw
  rcases List.eq_nil_or_concat l with rfl | ⟨l, a, rfl⟩
  · have := pm.length_eq; simp at this; omega
  · have : maxL ns = a := maxL_is (pm.mem_iff.mp (by simp)) fun y hy => by
      rw [List.concat_eq_append] at pm pw
      rcases List.mem_append.mp (pm.mem_iff.mpr hy) with hy | hy
      · exact (List.pairwise_append.mp pw).2.2 y hy a (by simp)
      · rw [List.mem_singleton.mp hy]; exact Int.le_refl _
    rw [this, List.concat_eq_append, List.map_append]
    exact atI_last
theorem ev_sortI {K : PySem.W.Frag} {σ : L2.St} {S : Sit} {ta : TE} {ns : List Int} (ha : EvD K ta σ S (.list (ns.map PyData.int))) : EvD K (tCB (rSortD K) (tCons ta tNil)) σ S (.list ((sortI ns).map PyData.int)) := by
  refine ev_is (ev_sortD ha (AllAlike.of fun a b => rfl) (Sortable.others fun b => ⟨(fun z => nomatch z), (fun _ z => nomatch z)⟩) fun d hd => ?_) (by rw [srt_I])
  obtain ⟨m, _, rfl⟩ := List.mem_map.mp hd
  simp [PyData.depth]
/-! ### forms -/
theorem shp_str {x : Str} (h : PyData.canLay0 (.str x) = true) : Shp 0 (.str x) := ⟨h, Nat.le_refl _⟩
theorem eqv_self {n : Nat} {d : PyData} (h : Shp n d) : PyData.eqv d d = true := SeqAt.eqv_refl d h.1
theorem ev_neS {K : PySem.W.Frag} {σ : L2.St} {S : Sit} {ta tb : TE} {d : PyData} {n : Nat} (ha : EvD K ta σ S d) (hb : EvD K tb σ S d) (h : Shp n d) (hn : n ≤ 64) : EvB K (tTest (tOp (rNeD K) ta tb)) σ S false :=
  eb_test (ev_is (ev_neD ha hb (h.to hn) (h.to hn)) (by rw [eqv_self h]; rfl))
theorem ev_eqS {K : PySem.W.Frag} {σ : L2.St} {S : Sit} {ta tb : TE} {d : PyData} {n : Nat} (ha : EvD K ta σ S d) (hb : EvD K tb σ S d) (h : Shp n d) (hn : n ≤ 64) : EvD K (tOp (rEqD K) ta tb) σ S (.bool true) :=
  ev_is (ev_eqD ha hb (h.to hn) (h.to hn)) (by rw [eqv_self h])
theorem shp_path (r : Str) (fl : List Mk) (wk : Wk) (n : Nat) : Shp 2 (.list (pathD r fl wk n)) := shp_map (fun w => shp_M w) _
theorem shp_seen (ps : List Pl) : Shp 3 (.list (seenL ps)) := shp_list fun d hd => by
  obtain ⟨p, _, rfl⟩ := List.mem_map.mp hd
  exact shp_tup fun e he => by
    simp at he
    rcases he with rfl | rfl
    · exact shp_P p
    · exact (shp_int _).up (by decide)
theorem shp_box (ws : List Wk) : Shp 1 (boxW ws) := shp_tup fun d hd => by
  simp at hd
  rcases hd with rfl | rfl | rfl | rfl <;> exact shp_int _
theorem shp_cnt (n : Nat) (fl : List Mk) : Shp 1 (.list (cntM n fl)) := shp_list fun d hd => by
  obtain ⟨k, _, rfl⟩ := List.mem_map.mp hd
  exact shp_int _
/-! ### what was read, as a text -/
theorem strI_eq {c : Int} (h : 0 ≤ c ∧ c < 5) : strI c = ⟨#[48 + c.toNat]⟩ := by
  have : c = 0 ∨ c = 1 ∨ c = 2 ∨ c = 3 ∨ c = 4 := by omega
  rcases this with rfl | rfl | rfl | rfl | rfl <;> decide +kernel
theorem join_digits {l : List Int} (h : ∀ c ∈ l, 0 ≤ c ∧ c < 5) : Txt.join "" (l.map strI) = ⟨(l.map fun c => 48 + c.toNat).toArray⟩ := by
  rw [← join0, List.map_map]
  congr 1
  exact List.map_congr_left fun c hc => strI_eq (h c hc)
theorem goSs_digits {r : Str} {s : Dd Int × Wk} {m : Nat} (hr : 2 ≤ r.length) (h5 : r.length ≤ 5) (ok : Okc r s.1 m) (n : Nat) : ∀ c ∈ goSs r s n, 0 ≤ c ∧ c < 5 := fun c hc => by
  unfold goSs at hc
  obtain ⟨k, _, rfl⟩ := List.mem_map.mp hc
  obtain ⟨c0, c1⟩ := (itG_ok hr (s := s) ok k).cl.at hr ((itG r s k).2.1, (itG r s k).2.2.1)
  omega
theorem canLay_digits {l : List Int} (h : ∀ c ∈ l, 0 ≤ c ∧ c < 5) : PyData.canLay0 (.str (Txt.join "" (l.map strI))) = true := by
  rw [join_digits h]
  show PyData.strOk _ = true
  unfold PyData.strOk
  simp only [List.all_toArray, List.all_eq_true, decide_eq_true_eq, List.mem_map]
  rintro x ⟨c, hc, rfl⟩
  have := h c hc
  omega
end MW

set_option Elab.async false
set_option linter.all false
set_option maxRecDepth 100000
set_option maxHeartbeats 4000000
namespace MW
open PySem PySem.Spec PyProof.Rows L2
set_option autoImplicit false
/-! ### what comes again -/
def hit (r : Str) (fl : List Mk) (wk : Wk) (k : Nat) : Bool := decide ((itG r (marksD fl, wk) k).2 = wk) && decide (toldL (itG r (marksD fl, wk) k).1 = fl)
def perO (r : Str) (fl : List Mk) (wk : Wk) (n : Nat) : Option Nat := ((List.range n).find? fun k => hit r fl wk (k + 1)).map (· + 1)
def eO : Option Nat → PyData
  | none => .none
  | some k => .int (k : Nat)
def perD (r : Str) (fl : List Mk) (wk : Wk) (n : Nat) : PyData := eO (perO r fl wk n)
theorem find_succ {p : Nat → Bool} (n : Nat) : (List.range (n + 1)).find? p = match (List.range n).find? p with
    | some k => some k
    | none => if p n = true then some n else none := by
  rw [List.range_succ, List.find?_append]
  cases (List.range n).find? p with
  | some k => rfl
  | none =>
    by_cases h : p n = true
    · simp [h]
    · simp [h]
theorem per_succ (r : Str) (fl : List Mk) (wk : Wk) (n : Nat) : perO r fl wk (n + 1) = match perO r fl wk n with
    | some k => some k
    | none => if hit r fl wk (n + 1) = true then some (n + 1) else none := by
  unfold perO
  rw [find_succ]
  cases (List.range n).find? fun k => hit r fl wk (k + 1) with
  | some k => rfl
  | none =>
    by_cases h : hit r fl wk (n + 1) = true
    · simp [h]
    · simp [h]
theorem per_hit {r : Str} {fl : List Mk} {wk : Wk} : ∀ {n k : Nat}, perO r fl wk n = some k → 1 ≤ k ∧ k ≤ n ∧ hit r fl wk k = true ∧ perO r fl wk (k - 1) = none
  | 0, k, h => by unfold perO at h; simp at h
  | n + 1, k, h => by
    rw [per_succ] at h
    cases e : perO r fl wk n with
    | some j =>
      rw [e] at h
      cases h
      obtain ⟨a, b, c, d⟩ := per_hit e
      exact ⟨a, by omega, c, d⟩
    | none =>
      rw [e] at h
      by_cases c : hit r fl wk (n + 1) = true
      · simp [c] at h
        subst h
        exact ⟨by omega, Nat.le_refl _, c, e⟩
      · simp [c] at h
theorem itG_add (r : Str) (s : Dd Int × Wk) (m : Nat) : ∀ n, itG r s (m + n) = itG r (itG r s m) n
  | 0 => rfl
  | n + 1 => by
    have z := itG_add r s m n
    show (goD r (itG r s (m + n)).1 (itG r s (m + n)).2, goW r (itG r s (m + n)).1 (itG r s (m + n)).2) = _
    rw [z]
    rfl
/-- all is as at first -/
theorem hit_eqs {r : Str} {fl : List Mk} {wk : Wk} {k : Nat} (hr : 2 ≤ r.length) (hf : floorOk r.length fl = true) (h : hit r fl wk k = true) : Eqs (itG r (marksD fl, wk) k) (marksD fl, wk) := by
  unfold hit at h
  simp only [Bool.and_eq_true, decide_eq_true_eq] at h
  obtain ⟨f1, f2, f3⟩ := floorOk_at hf
  have ok := itG_ok hr (s := (marksD fl, wk)) (okc_marks f2) k
  refine ⟨fun p => ?_, h.1⟩
  have z := marks_told ok.nk (fun q hq => (ok.cl q hq).1) p
  rw [h.2] at z
  exact z.symm
theorem eqs_hit {r : Str} {fl : List Mk} {wk : Wk} {k : Nat} (hr : 2 ≤ r.length) (hf : floorOk r.length fl = true) (hd : Eqd (itG r (marksD fl, wk) k).1 (marksD fl)) : toldL (itG r (marksD fl, wk) k).1 = fl := by
  obtain ⟨f1, f2, f3⟩ := floorOk_at hf
  have ok0 := okc_marks f2
  have ok := itG_ok hr (s := (marksD fl, wk)) ok0 k
  rw [told_eq ok.nk ok0.nk hd]
  exact told_marks f3 fun m hm => by
    have z := f2 m hm
    unfold markOk at z
    simp only [Bool.and_eq_true, decide_eq_true_eq] at z
    omega
theorem hit_wf {r : Str} {fl : List Mk} {wk : Wk} {k : Nat} (h : hit r fl wk k = true) : eWF (itG r (marksD fl, wk) k) = .tuple [eW3 wk, eF fl] := by
  unfold hit at h
  simp only [Bool.and_eq_true, decide_eq_true_eq] at h
  unfold eWF
  rw [h.1, h.2]
  rfl
theorem hit3 {r : Str} {fl : List Mk} {wk : Wk} {k : Nat} (hr : 2 ≤ r.length) (hf : floorOk r.length fl = true) (h : hit r fl wk k = true) : hit r fl wk (k + k + k) = true := by
  have e := hit_eqs hr hf h
  have e2 : Eqs (itG r (marksD fl, wk) (k + k + k)) (marksD fl, wk) := by
    rw [itG_add, itG_add]
    exact (itG_eq ((itG_eq e k).trans e) k).trans e
  unfold hit
  rw [decide_eq_true e2.2, decide_eq_true (eqs_hit hr hf e2.1)]
  rfl
/-- what is unlike the first, by places -/
def Unl (U : Dd Int) (A B : Dd Int) : Prop := ∀ p, dget U p = if at0 A p = at0 B p then none else some (at0 A p)
theorem unl_nil (A : Dd Int) : Unl [] A A := fun p => by rw [if_pos rfl]; rfl
theorem unl_step {U A B : Dd Int} {p : Pl} {c : Int} (h : Unl U A B) : Unl (if c = at0 B p then ddrop U p else dput (ddrop U p) p c) (dput A p c) B := fun q => by
  rw [at0_put]
  by_cases e : q = p
  · subst e
    rw [if_pos rfl]
    by_cases k : c = at0 B q
    · rw [if_pos k, dget_drop, if_pos rfl, if_pos k]
    · rw [if_neg k, dget_put, if_pos rfl, if_neg k]
  · rw [if_neg e]
    by_cases k : c = at0 B p
    · rw [if_pos k, dget_drop, if_neg e]
      exact h q
    · rw [if_neg k, dget_put, if_neg e, dget_drop, if_neg e]
      exact h q
theorem unl_len {U A B : Dd Int} (h : Unl U A B) : U.length = 0 ↔ Eqd A B := by
  constructor
  · intro e p
    have z := h p
    rw [List.length_eq_zero_iff.mp e] at z
    by_cases k : at0 A p = at0 B p
    · exact k
    · rw [if_neg k] at z
      cases z
  · intro e
    cases U with
    | nil => rfl
    | cons q U =>
      have z := h q.1
      rw [if_pos (e q.1)] at z
      exact absurd (List.mem_map.mpr ⟨q, by simp, rfl⟩) (dget_none.mp z)
theorem unl_size {U : Dd Int} {p : Pl} {c b : Int} : (if c = b then ddrop U p else dput (ddrop U p) p c).length ≤ U.length + 1 := by
  have h1 := ddrop_len U p
  split
  · omega
  · have := dput_len (ddrop U p) p c
    omega
/-- an if without an else, both ways together behind it -/
theorem st_if1 {K : PySem.W.Frag} {σ : L2.St} {S : Sit} {t : TT} {t1 : TS} {D : Ends} {b : Bool} (J : Sit → Prop) (hb : EvB K t σ S b) (hk : ∀ T, J T → D.nx σ T.H) (h1 : b = true → ∀ T, Le S T → (∀ T', J T' → D.nx σ T'.H) → t1 D σ T.H) (h2 : b = false → ∀ T, Le S T → J T) : tIfS t t1 tNext D σ S.H :=
  st_if hb (fun e T l => h1 e T l hk) (fun e T l => hk T (h2 e T l))
section
variable {K : PySem.W.Frag} {t : Addr} {σ : L2.St} {S : Sit} {δ : List Sl} {b b1 : Nat}
/-- one of a list, which is drawn in part -/
theorem en_pickD {E : XK} {i j : Nat} {tl : TE} {a : Addr} {ns : List Int} {Ψ : List PyData → Prop} (hE : Sv K S.G σ δ) (hi : δ[i]? = some (.v (.ref a))) (hj : δ[j]? = some (.v (.ref t))) (hl : EvN K t tl σ S b (b1 + 1) (fun d => ∃ ds, d = .list ds ∧ Ψ ds)) (hp : ∀ ds, Ψ ds → 0 < ds.length) (hs : SqL K S.G a (ns.map V.int)) :
    EvN K t (tCall (sp__law_pick K) [] E (tCons (tVar i) (tCons (tVar j) (tCons tl tNil)))) σ S b b1 (fun d => ∃ ds, Ψ ds ∧ d ∈ ds) := fun T l ht Q q => by
  refine ⟨_, (hE.up l.g).val hi, _, (hE.up l.g).val hj, ?_⟩
  refine hl T l ht _ fun d v U hd lU tU o => ?_
  obtain ⟨ds, rfl, hds⟩ := hd
  show sp__law_pick K ([V.ref a, V.ref t, v] ++ []) U.H Q E
  rw [List.append_nil]
  exact ⟨U, a, t, ns, ds, b1, rfl, .cons rfl (.cons rfl (.cons o .nil)), (l.g.trans lU.g).seq hs, tU, hp ds hds, fun d v W hd lW tW oW => q d v W ⟨ds, hds, hd⟩ (Lt.trans lU lW tU.has) tW oW⟩
end
end MW

set_option Elab.async false
set_option linter.all false
set_option maxRecDepth 100000
set_option maxHeartbeats 4000000
namespace MW
open PySem PySem.Spec PyProof.Rows L2
set_option autoImplicit false
theorem at0_marks {fl : List Mk} (h : (fl.map plOf).Nodup) {m : Mk} (hm : m ∈ fl) : at0 (marksD fl) (plOf m) = m.2.2 := by
  rw [marks_id h]
  have nk : Nk (fl.map unMk) := by
    unfold Nk
    rw [List.map_map]
    exact h
  unfold at0
  have z := dget_of nk (List.mem_map.mpr ⟨m, hm, rfl⟩)
  have y : dget (fl.map unMk) (plOf m) = some m.2.2 := z
  rw [y]
  rfl
theorem at0_marks0 {fl : List Mk} (h : (fl.map plOf).Nodup) {p : Pl} (hp : p ∉ fl.map plOf) : at0 (marksD fl) p = 0 := by
  rw [marks_id h]
  unfold at0
  have z : dget (fl.map unMk) p = none := dget_none.mpr (by rw [List.map_map]; exact hp)
  rw [z]
  rfl

/-! ### turned -/
def rot (p : Pl) : Pl := (p.2, 0 - p.1)
def tP : Nat → Pl → Pl
  | 0, p => p
  | k + 1, p => rot (tP k p)
def tM (k : Nat) (m : Mk) : Mk := ((tP k (plOf m)).1, (tP k (plOf m)).2, m.2.2)
def tW (k : Nat) (w : Wk) : Wk := ((tP k (plW w)).1, (tP k (plW w)).2, (w.2.2 + (k : Nat)) % 4)
def sF (f : Mk → Mk) (fl : List Mk) : List Mk := sortM (fl.map f)
theorem tP_4 (k : Nat) (p : Pl) : tP (k + 4) p = tP k p := by
  show rot (rot (rot (rot (tP k p)))) = tP k p
  unfold rot
  refine Prod.ext ?_ ?_ <;> simp
theorem tP_mod (k : Nat) (p : Pl) : tP k p = tP (k % 4) p := by
  have key : ∀ n j, tP (j + 4 * n) p = tP j p := by
    intro n
    induction n with
    | zero => intro j; rfl
    | succ n ih => intro j; rw [show j + 4 * (n + 1) = (j + 4 * n) + 4 by omega, tP_4, ih]
  have z := key (k / 4) (k % 4)
  rw [show k % 4 + 4 * (k / 4) = k by omega] at z
  exact z
theorem tP_add (a b : Nat) (p : Pl) : tP (a + b) p = tP a (tP b p) := by
  induction a with
  | zero => rw [Nat.zero_add]; rfl
  | succ a ih => rw [Nat.succ_add]; show rot (tP (a + b) p) = rot (tP a (tP b p)); rw [ih]
theorem tP_lin (k : Nat) (p q : Pl) : tP k (p.1 + q.1, p.2 + q.2) = ((tP k p).1 + (tP k q).1, (tP k p).2 + (tP k q).2) := by
  induction k with
  | zero => rfl
  | succ k ih =>
    show rot (tP k _) = ((rot (tP k p)).1 + (rot (tP k q)).1, _)
    rw [ih]
    refine Prod.ext rfl ?_
    show 0 - ((tP k p).1 + (tP k q).1) = (0 - (tP k p).1) + (0 - (tP k q).1)
    omega
theorem tP_sub (k : Nat) (p q : Pl) : tP k (p.1 - q.1, p.2 - q.2) = ((tP k p).1 - (tP k q).1, (tP k p).2 - (tP k q).2) := by
  induction k with
  | zero => rfl
  | succ k ih =>
    show rot (tP k _) = ((rot (tP k p)).1 - (rot (tP k q)).1, _)
    rw [ih]
    refine Prod.ext rfl ?_
    show 0 - ((tP k p).1 - (tP k q).1) = (0 - (tP k p).1) - (0 - (tP k q).1)
    omega
theorem tP_inj {k : Nat} {p q : Pl} (h : tP k p = tP k q) : p = q := by
  induction k with
  | zero => exact h
  | succ k ih =>
    refine ih ?_
    have h : rot (tP k p) = rot (tP k q) := h
    unfold rot at h
    have a := congrArg Prod.fst h
    have b := congrArg Prod.snd h
    simp only at a b
    exact Prod.ext (by omega) a
theorem tP_far {k : Nat} {p : Pl} {n : Int} (h : (-n ≤ p.1 ∧ p.1 ≤ n) ∧ -n ≤ p.2 ∧ p.2 ≤ n) : (-n ≤ (tP k p).1 ∧ (tP k p).1 ≤ n) ∧ -n ≤ (tP k p).2 ∧ (tP k p).2 ≤ n := by
  induction k with
  | zero => exact h
  | succ k ih =>
    show (-n ≤ (tP k p).2 ∧ (tP k p).2 ≤ n) ∧ -n ≤ 0 - (tP k p).1 ∧ 0 - (tP k p).1 ≤ n
    omega
theorem ahead_turn (k : Nat) {h : Int} (h0 : 0 ≤ h) (h4 : h < 4) : ahead ((h + (k : Nat)) % 4) = tP k (ahead h) := by
  induction k with
  | zero =>
    rw [show (h + ((0 : Nat) : Int)) % 4 = h by omega]
    rfl
  | succ k ih =>
    show _ = rot (tP k (ahead h))
    rw [← ih]
    have : (h + (k : Nat)) % 4 = 0 ∨ (h + (k : Nat)) % 4 = 1 ∨ (h + (k : Nat)) % 4 = 2 ∨ (h + (k : Nat)) % 4 = 3 := by omega
    rcases this with e | e | e | e
    · rw [e, show (h + ((k + 1 : Nat) : Int)) % 4 = 1 by omega]; rfl
    · rw [e, show (h + ((k + 1 : Nat) : Int)) % 4 = 2 by omega]; rfl
    · rw [e, show (h + ((k + 1 : Nat) : Int)) % 4 = 3 by omega]; rfl
    · rw [e, show (h + ((k + 1 : Nat) : Int)) % 4 = 0 by omega]; rfl
/-! ### floors seen otherwise -/
theorem sF_perm (f : Mk → Mk) (l : List Mk) : (sF f l).Perm (l.map f) := sortM_perm _
theorem sF_sF (f g : Mk → Mk) (l : List Mk) : sF f (sF g l) = sF (fun m => f (g m)) l := by
  unfold sF
  refine sortM_uniq ?_
  have z := (sortM_perm (l.map g)).map f
  rw [List.map_map] at z
  exact z
theorem sF_congr {f g : Mk → Mk} {l : List Mk} (h : ∀ m ∈ l, f m = g m) : sF f l = sF g l := by
  unfold sF
  rw [List.map_congr_left h]
theorem sF_id {l : List Mk} (h : (l.map plOf).Pairwise plt) : sF (fun m => m) l = l := by
  unfold sF
  rw [show l.map (fun m => m) = l from List.map_id l]
  exact rise_sorted h
/-- a move of places that parts them -/
structure Mv (f : Mk → Mk) (g : Pl → Pl) : Prop where
  pl : ∀ m, plOf (f m) = g (plOf m)
  co : ∀ m, (f m).2.2 = m.2.2
  inj : ∀ p q, g p = g q → p = q
theorem Mv.nodup {f : Mk → Mk} {g : Pl → Pl} (h : Mv f g) {l : List Mk} (nd : (l.map plOf).Nodup) : ((l.map f).map plOf).Nodup := by
  rw [List.map_map]
  refine List.pairwise_map.mpr ((List.pairwise_map.mp nd).imp fun {a b} ne e => ne ?_)
  have e : plOf (f a) = plOf (f b) := e
  rw [h.pl, h.pl] at e
  exact h.inj _ _ e
theorem Mv.rise {f : Mk → Mk} {g : Pl → Pl} (h : Mv f g) {l : List Mk} (nd : (l.map plOf).Nodup) : ((sF f l).map plOf).Pairwise plt := sortM_rise (h.nodup nd)
theorem Mv.ok {f : Mk → Mk} {g : Pl → Pl} (h : Mv f g) {n : Nat} {l : List Mk} (hf : floorOk n l = true) (hin : ∀ m ∈ l, (-100 ≤ (g (plOf m)).1 ∧ (g (plOf m)).1 ≤ 100) ∧ -100 ≤ (g (plOf m)).2 ∧ (g (plOf m)).2 ≤ 100) : floorOk n (sF f l) = true := by
  obtain ⟨f1, f2, f3⟩ := floorOk_at hf
  refine floorOk_of (by rw [(sF_perm f l).length_eq, List.length_map]; exact f1) (fun m hm => ?_) (h.rise (rise_nodup f3))
  obtain ⟨x, hx, rfl⟩ := List.mem_map.mp ((sF_perm f l).mem_iff.mp hm)
  have a := f2 x hx
  have b := hin x hx
  have c := h.pl x
  have d := h.co x
  have e1 : (f x).1 = (g (plOf x)).1 := congrArg Prod.fst c
  have e2 : (f x).2.1 = (g (plOf x)).2 := congrArg Prod.snd c
  unfold markOk at a ⊢
  simp only [Bool.and_eq_true, decide_eq_true_eq] at a ⊢
  rw [e1, e2, d]
  omega
theorem Mv.at {f : Mk → Mk} {g : Pl → Pl} (h : Mv f g) {l : List Mk} (nd : (l.map plOf).Nodup) (p : Pl) : at0 (marksD (sF f l)) (g p) = at0 (marksD l) p := by
  have nd2 : ((sF f l).map plOf).Nodup := ((sF_perm f l).map plOf).nodup_iff.mpr (h.nodup nd)
  by_cases hp : p ∈ l.map plOf
  · obtain ⟨m, hm, rfl⟩ := List.mem_map.mp hp
    rw [at0_marks nd hm, ← h.pl m, at0_marks nd2 ((sF_perm f l).mem_iff.mpr (List.mem_map.mpr ⟨m, hm, rfl⟩)), h.co]
  · rw [at0_marks0 nd hp]
    refine at0_marks0 nd2 fun z => hp ?_
    obtain ⟨x, hx, e⟩ := List.mem_map.mp z
    obtain ⟨m, hm, rfl⟩ := List.mem_map.mp ((sF_perm f l).mem_iff.mp hx)
    rw [h.pl] at e
    exact List.mem_map.mpr ⟨m, hm, h.inj _ _ e⟩
theorem mv_turn (k : Nat) : Mv (tM k) (tP k) := ⟨fun _ => rfl, fun _ => rfl, fun _ _ h => tP_inj h⟩
/-! ### mirrored -/
def miP (p : Pl) : Pl := (0 - p.1, p.2)
def miM (m : Mk) : Mk := (0 - m.1, m.2.1, m.2.2)
def miW (w : Wk) : Wk := (0 - w.1, w.2.1, (4 - w.2.2) % 4)
theorem mv_mir : Mv miM miP := ⟨fun _ => rfl, fun _ => rfl, fun p q h => by
  have a := congrArg Prod.fst h
  have b := congrArg Prod.snd h
  have a : 0 - p.1 = 0 - q.1 := a
  exact Prod.ext (by omega) b⟩
theorem ahead_mir {h : Int} (h0 : 0 ≤ h) (h4 : h < 4) : ahead ((4 - h) % 4) = miP (ahead h) := by
  have : h = 0 ∨ h = 1 ∨ h = 2 ∨ h = 3 := by omega
  rcases this with rfl | rfl | rfl | rfl <;> rfl
def swp (c : Nat) : Nat := if c = 76 then 82 else if c = 82 then 76 else c
def miR (r : Str) : Str := ⟨(r.cps.toList.map swp).toArray⟩
theorem miR_tl (r : Str) : (miR r).cps.toList = r.cps.toList.map swp := by unfold miR; simp
theorem miR_len (r : Str) : (miR r).length = r.length := by
  rw [TL.len_tl, TL.len_tl]
  show (miR r).cps.toList.length = r.cps.toList.length
  rw [miR_tl, List.length_map]
theorem swp_swp (c : Nat) : swp (swp c) = c := by
  unfold swp
  by_cases a : c = 76
  · rw [if_pos a]; simp [a]
  · rw [if_neg a]
    by_cases b : c = 82
    · rw [if_pos b]; simp [b]
    · rw [if_neg b, if_neg a, if_neg b]
theorem miR_miR (r : Str) : miR (miR r) = r := by
  have e : (miR (miR r)).cps.toList = r.cps.toList := by
    rw [miR_tl, miR_tl, List.map_map]
    have : swp ∘ swp = id := funext swp_swp
    rw [this, List.map_id]
  exact TL.ext_tl e
theorem signs_mem {c : Nat} : c ∈ signs4.cps.toList ↔ (c = 76 ∨ c = 78 ∨ c = 82 ∨ c = 85) := by
  have y : signs4.cps.toList = [76, 78, 82, 85] := by decide +kernel
  rw [y]
  simp
theorem miR_ok {r : Str} (h : ruleOk r = true) : ruleOk (miR r) = true := by
  have s := rule_signs h
  have l := ruleOk_len h
  have e : miR r = ⟨(r.cps.toList.map swp).toArray⟩ := rfl
  rw [e]
  have tl : r.length = r.cps.toList.length := TL.len_tl r
  refine ruleOk_of (by rw [List.length_map]; omega) (by rw [List.length_map]; omega) fun c hc => ?_
  obtain ⟨x, hx, rfl⟩ := List.mem_map.mp hc
  refine signs_mem.mpr ?_
  rcases s x hx with rfl | rfl | rfl | rfl <;> simp [swp]
theorem sign_mir {r : Str} (h : ruleOk r = true) {c : Int} (h0 : 0 ≤ c) (h1 : c < (r.length : Int)) : signAt (miR r) c = swp (signAt r c) := by
  have tl : r.length = r.cps.toList.length := TL.len_tl r
  have lt : c.toNat < r.cps.toList.length := by omega
  unfold signAt
  rw [miR_tl, List.getD_eq_getElem?_getD, List.getD_eq_getElem?_getD, List.getElem?_map, List.getElem?_eq_getElem lt]
  rfl
theorem turn_swp {c : Nat} (h : c = 76 ∨ c = 78 ∨ c = 82 ∨ c = 85) : turnOf (swp c) = (4 - turnOf c) % 4 := by
  rcases h with rfl | rfl | rfl | rfl <;> decide
/-! ### steps turned, mirrored -/
def RotS (k : Nat) (s s' : Dd Int × Wk) : Prop := s'.2 = tW k s.2 ∧ ∀ p, at0 s'.1 (tP k p) = at0 s.1 p
theorem rot_step {r : Str} {k : Nat} {s s' : Dd Int × Wk} (h : RotS k s s') (hh : 0 ≤ s.2.2.2 ∧ s.2.2.2 < 4) : RotS k (goD r s.1 s.2, goW r s.1 s.2) (goD r s'.1 s'.2, goW r s'.1 s'.2) ∧ at0 s'.1 (plW s'.2) = at0 s.1 (plW s.2) := by
  obtain ⟨e, hc⟩ := h
  have pl : plW s'.2 = tP k (plW s.2) := by rw [e]; rfl
  have ec : at0 s'.1 (plW s'.2) = at0 s.1 (plW s.2) := by rw [pl, hc]
  have eH : goH r s'.1 s'.2 = (goH r s.1 s.2 + (k : Nat)) % 4 := by
    show (s'.2.2.2 + turnOf (signAt r (at0 s'.1 (plW s'.2)))) % 4 = ((s.2.2.2 + turnOf (signAt r (at0 s.1 (plW s.2)))) % 4 + (k : Nat)) % 4
    rw [ec]
    have : s'.2.2.2 = (s.2.2.2 + (k : Nat)) % 4 := by rw [e]; rfl
    rw [this]
    omega
  have g0 : 0 ≤ goH r s.1 s.2 := Int.emod_nonneg _ (by decide)
  have g4 : goH r s.1 s.2 < 4 := Int.emod_lt_of_pos _ (by decide)
  have eA := ahead_turn k g0 g4
  refine ⟨⟨?_, fun p => ?_⟩, ec⟩
  · show goW r s'.1 s'.2 = tW k (goW r s.1 s.2)
    unfold goW
    rw [eH, eA]
    have z := tP_lin k (plW s.2) (ahead (goH r s.1 s.2))
    have a1 : s'.2.1 = (tP k (plW s.2)).1 := by rw [← pl]; rfl
    have a2 : s'.2.2.1 = (tP k (plW s.2)).2 := by rw [← pl]; rfl
    rw [a1, a2]
    refine Prod.ext ?_ (Prod.ext ?_ rfl)
    · exact (congrArg Prod.fst z).symm
    · exact (congrArg Prod.snd z).symm
  · show at0 (dput s'.1 (plW s'.2) ((at0 s'.1 (plW s'.2) + 1) % (r.length : Int))) (tP k p) = at0 (dput s.1 (plW s.2) ((at0 s.1 (plW s.2) + 1) % (r.length : Int))) p
    rw [at0_put, at0_put, ec, pl]
    by_cases c : p = plW s.2
    · rw [if_pos c, if_pos (by rw [c])]
    · rw [if_neg c, if_neg (fun z => c (tP_inj z)), hc]
theorem rot_it {r : Str} {k : Nat} {s s' : Dd Int × Wk} (h : RotS k s s') (hh : 0 ≤ s.2.2.2 ∧ s.2.2.2 < 4) : ∀ n, RotS k (itG r s n) (itG r s' n)
  | 0 => h
  | n + 1 => (rot_step (rot_it h hh n) (itG_h hh n)).1
theorem rot_reads {r : Str} {k : Nat} {s s' : Dd Int × Wk} (h : RotS k s s') (hh : 0 ≤ s.2.2.2 ∧ s.2.2.2 < 4) (n : Nat) : goSs r s' n = goSs r s n := by
  unfold goSs
  refine List.map_congr_left fun i _ => ?_
  exact (rot_step (r := r) (rot_it h hh i) (itG_h hh i)).2
def MirS (s s' : Dd Int × Wk) : Prop := s'.2 = miW s.2 ∧ ∀ p, at0 s'.1 (miP p) = at0 s.1 p
theorem mir_step {r : Str} (hro : ruleOk r = true) {s s' : Dd Int × Wk} (h : MirS s s') (hh : 0 ≤ s.2.2.2 ∧ s.2.2.2 < 4) (hc : Cl r s.1) : MirS (goD r s.1 s.2, goW r s.1 s.2) (goD (miR r) s'.1 s'.2, goW (miR r) s'.1 s'.2) := by
  obtain ⟨e, hc'⟩ := h
  have rl := ruleOk_len hro
  have pl : plW s'.2 = miP (plW s.2) := by rw [e]; rfl
  have ec : at0 s'.1 (plW s'.2) = at0 s.1 (plW s.2) := by rw [pl, hc']
  obtain ⟨c0, c1⟩ := hc.at rl.1 (plW s.2)
  obtain ⟨_, sg⟩ := sign_of (rule_signs hro) c0 c1
  have eH : goH (miR r) s'.1 s'.2 = (4 - goH r s.1 s.2) % 4 := by
    show (s'.2.2.2 + turnOf (signAt (miR r) (at0 s'.1 (plW s'.2)))) % 4 = (4 - (s.2.2.2 + turnOf (signAt r (at0 s.1 (plW s.2)))) % 4) % 4
    rw [ec, sign_mir hro c0 c1, turn_swp sg]
    have : s'.2.2.2 = (4 - s.2.2.2) % 4 := by rw [e]; rfl
    rw [this]
    omega
  have g0 : 0 ≤ goH r s.1 s.2 := Int.emod_nonneg _ (by decide)
  have g4 : goH r s.1 s.2 < 4 := Int.emod_lt_of_pos _ (by decide)
  have eA := ahead_mir g0 g4
  refine ⟨?_, fun p => ?_⟩
  · show goW (miR r) s'.1 s'.2 = miW (goW r s.1 s.2)
    unfold goW
    rw [eH, eA]
    have a1 : s'.2.1 = 0 - s.2.1 := by rw [e]; rfl
    have a2 : s'.2.2.1 = s.2.2.1 := by rw [e]; rfl
    rw [a1, a2]
    refine Prod.ext ?_ (Prod.ext rfl rfl)
    show 0 - s.2.1 + (0 - _) = 0 - (s.2.1 + _)
    omega
  · show at0 (dput s'.1 (plW s'.2) ((at0 s'.1 (plW s'.2) + 1) % ((miR r).length : Int))) (miP p) = at0 (dput s.1 (plW s.2) ((at0 s.1 (plW s.2) + 1) % (r.length : Int))) p
    rw [at0_put, at0_put, ec, pl, miR_len]
    by_cases c : p = plW s.2
    · rw [if_pos c, if_pos (by rw [c])]
    · rw [if_neg c, if_neg (fun z => c (mv_mir.inj _ _ z)), hc']
theorem mir_it {r : Str} (hro : ruleOk r = true) {s s' : Dd Int × Wk} {m : Nat} (h : MirS s s') (hh : 0 ≤ s.2.2.2 ∧ s.2.2.2 < 4) (ok : Okc r s.1 m) : ∀ n, MirS (itG r s n) (itG (miR r) s' n)
  | 0 => h
  | n + 1 => mir_step hro (mir_it hro h hh ok n) (itG_h hh n) (itG_ok (ruleOk_len hro).1 ok n).cl
/-! ### the floor as the walker sees it -/
def shM (w : Wk) (m : Mk) : Mk := (m.1 - w.1, m.2.1 - w.2.1, m.2.2)
def plF (w : Wk) (fl : List Mk) : List Mk := sF (fun m => tM ((4 - w.2.2) % 4).toNat (shM w m)) fl
theorem tM_ext {a b : Mk} (h : plOf a = plOf b) (c : a.2.2 = b.2.2) : a = b := by
  have h1 : a.1 = b.1 := congrArg (fun p : Pl => p.1) h
  have h2 : a.2.1 = b.2.1 := congrArg (fun p : Pl => p.2) h
  exact Prod.ext h1 (Prod.ext h2 c)
theorem mv_plain (w : Wk) : Mv (fun m => tM ((4 - w.2.2) % 4).toNat (shM w m)) (fun p => tP ((4 - w.2.2) % 4).toNat (p.1 - w.1, p.2 - w.2.1)) := ⟨fun _ => rfl, fun _ => rfl, fun p q h => by
  have z := tP_inj h
  have a := congrArg Prod.fst z
  have b := congrArg Prod.snd z
  simp only at a b
  exact Prod.ext (by omega) (by omega)⟩
theorem pl_turn {w : Wk} {k : Nat} {fl : List Mk} (h0 : 0 ≤ w.2.2) (h4 : w.2.2 < 4) : plF (tW k w) (sF (tM k) fl) = plF w fl := by
  unfold plF
  rw [sF_sF]
  refine sF_congr fun m _ => tM_ext ?_ rfl
  show tP ((4 - (w.2.2 + (k : Nat)) % 4) % 4).toNat ((tP k (plOf m)).1 - (tP k (plW w)).1, (tP k (plOf m)).2 - (tP k (plW w)).2) = tP ((4 - w.2.2) % 4).toNat ((plOf m).1 - (plW w).1, (plOf m).2 - (plW w).2)
  rw [← tP_sub, ← tP_add, tP_mod]
  congr 1
  omega
theorem tP_mir (j : Nat) (hj : j < 4) (p : Pl) : tP ((4 - j) % 4) (miP p) = miP (tP j p) := by
  have : j = 0 ∨ j = 1 ∨ j = 2 ∨ j = 3 := by omega
  rcases this with rfl | rfl | rfl | rfl
  · rfl
  · show rot (rot (rot (miP p))) = miP (rot p)
    unfold rot miP
    refine Prod.ext ?_ ?_ <;> simp
  · show rot (rot (miP p)) = miP (rot (rot p))
    unfold rot miP
    refine Prod.ext ?_ ?_ <;> simp
  · show rot (miP p) = miP (rot (rot (rot p)))
    unfold rot miP
    refine Prod.ext ?_ ?_ <;> simp
theorem pl_mir {w : Wk} {fl : List Mk} (h0 : 0 ≤ w.2.2) (h4 : w.2.2 < 4) : plF (miW w) (sF miM fl) = sF miM (plF w fl) := by
  unfold plF
  rw [sF_sF, sF_sF]
  refine sF_congr fun m _ => tM_ext ?_ rfl
  have z := tP_mir ((4 - w.2.2) % 4).toNat (by omega) ((plOf m).1 - (plW w).1, (plOf m).2 - (plW w).2)
  have e : ((4 - (4 - w.2.2) % 4) % 4).toNat = (4 - ((4 - w.2.2) % 4).toNat) % 4 := by omega
  show tP ((4 - (4 - w.2.2) % 4) % 4).toNat ((0 - m.1) - (0 - w.1), m.2.1 - w.2.1) = miP (tP ((4 - w.2.2) % 4).toNat (m.1 - w.1, m.2.1 - w.2.1))
  rw [e]
  have z : tP ((4 - ((4 - w.2.2) % 4).toNat) % 4) (miP (m.1 - w.1, m.2.1 - w.2.1)) = miP (tP ((4 - w.2.2) % 4).toNat (m.1 - w.1, m.2.1 - w.2.1)) := z
  rw [← z]
  congr 1
  unfold miP
  refine Prod.ext ?_ rfl
  simp
  omega
/-- floors that rise are told apart -/
theorem sF_inj {f : Mk → Mk} (hf : ∀ a b, f a = f b → a = b) {l m : List Mk} (hl : (l.map plOf).Pairwise plt) (hm : (m.map plOf).Pairwise plt) : sF f l = sF f m ↔ l = m := by
  constructor
  · intro e
    have p1 : (l.map f).Perm (m.map f) := ((sF_perm f l).symm.trans (by rw [e])).trans (sF_perm f m)
    have nd : ∀ {x : List Mk}, (x.map plOf).Pairwise plt → x.Nodup := fun {x} h => List.Pairwise.of_map plOf (fun _ _ hne e => hne (congrArg _ e)) (rise_nodup h)
    have p2 : l.Perm m := (List.perm_ext_iff_of_nodup (nd hl) (nd hm)).mpr fun x => by
      have key : ∀ {a b : List Mk}, (a.map f).Perm (b.map f) → x ∈ a → x ∈ b := fun {a b} h hx => by
        obtain ⟨y, hy, e⟩ := List.mem_map.mp (h.mem_iff.mp (List.mem_map.mpr ⟨x, hx, rfl⟩))
        rw [← hf _ _ e]
        exact hy
      exact ⟨key p1, key p1.symm⟩
    have z := sortM_uniq p2
    rw [rise_sorted hl, rise_sorted hm] at z
    exact z
  · intro e; rw [e]
theorem mv_inj {f : Mk → Mk} {g : Pl → Pl} (h : Mv f g) : ∀ a b, f a = f b → a = b := fun a b e => tM_ext (h.inj _ _ (by rw [← h.pl, ← h.pl, e])) (by rw [← h.co a, ← h.co b, e])
end MW

set_option Elab.async false
set_option linter.all false
set_option maxRecDepth 100000
set_option maxHeartbeats 2000000
namespace MW
open PySem PySem.Spec PyProof.Rows L2
/-- a law that may raise within: the exceptions' shape goes by the world -/
theorem walk_ofW {l : PySem.W.OpenLaw} {n k : Nat} {q : Program} {loose : List Str} {XP : (Str → Option Value) → Heap → Prop} {YP : World → Heap → Prop} {d : DefRec} {CX : World → CXT} {x : Str}
    (hn : l.most = some n) (hn2 : n ≤ sizeLine) (hdf : d.params.defaults = []) (hr : Room k callerA)
    (F : ∀ (w : World) (mg : Str → Option Value) (fa : Addr) (h : Heap), YP w h → h.Ns mainGlobals mg → mg d.name = some (.ref fa) →
      ∃ (K : PySem.W.Frag) (fd : FuncData) (sp : Sp), K.In h ∧ (∀ (s : Shared) (u : Value), BindsTo s fd ⟨[u], []⟩ [(x, u)]) ∧
        (∀ (H : Hp) (a : Addr) (ns : List Int), ns.length ≤ n → SqL K H a (ns.map V.int) → sp [.ref a] H (fun v _ => v = .bl true) fun _ _ _ => False) ∧
        ∀ base : Heap, K.In base → base.Ns mainGlobals mg → FnOk l.prog w K mg base (CX w) k fa fd [x] sp)
    (hCX : ∀ (w : World) (H : Hp) (s : Shared) (e : Value) (s' : Shared), CX w [] H s (fun _ _ _ => False) e s' → False) :
    PySem.W.WalkO q loose XP YP l.row.toRowW d [] (fun f vs => PySem.call f vs) := by
  refine Att.attach_call hn hdf fun w s₀ s₁ mg mb fa o pm cd doc a vs ns G Y ho hd hcd hmg hobj hints hlen hg => ?_
  obtain ⟨K, fd, sp, KX, hb, hsp, hF⟩ := F w mg fa _ Y G.T.g hmg
  exact law_call KX G.T.g G.T.b G.T.builtins G.T.nolimit hg hobj hints (Nat.le_trans hlen hn2) hr hF hb (fun H hO hS => hsp H a ns hlen hS) fun H e s' => hCX w H s₁ e s'
theorem cx_never {P : Program} {w : World} {H : Hp} {s : Shared} {e : Value} {s' : Shared} (h : L2.CX P w [] H s (fun _ _ _ => False) e s') : False := by
  obtain ⟨_, _, _, _, _, _, _, _, _, _, _, _, z⟩ := h
  exact z
theorem xc_of {K : PySem.W.Frag} {h : Heap} {mg : Str → Option Value} {x : Str} (X : K.In h) (G : h.Ns mainGlobals mg) (c1 : (He.Fa.glo x).ok K = true) (c2 : (He.Fa.exc x).ok K = true) : Xc K mg x (He.ga K x) := by
  obtain ⟨a, b, c, d⟩ := He.exc_ok c2
  exact ⟨He.glo_ok X G c1, a, b, c, d⟩
end MW

set_option Elab.async false
set_option linter.all false
set_option maxRecDepth 100000
set_option maxHeartbeats 4000000
namespace MW
open PySem PySem.Spec PyProof.Rows L2
set_option autoImplicit false
/-! ### the table of mirrored signs -/
def isStr : Str → Value → Bool
  | x, .str y _ => decide (x = y)
  | _, _ => false
def mirB (K : PySem.W.Frag) (x y : Str) : Bool := match PySem.W.nsIn K (He.ga K "MIRROR") x with
  | some (some v) => isStr y v
  | _ => false
def mirrorB (K : PySem.W.Frag) : Bool := mirB K "L" "R" && (mirB K "R" "L" && (mirB K "N" "N" && mirB K "U" "U"))
theorem isStr_rel {x : Str} {u : Value} (h : isStr x u = true) : RelV (.str x) u := by
  cases u with
  | str y t =>
    have e : x = y := of_decide_eq_true h
    subst e
    exact ⟨t, rfl⟩
  | _ => exact nomatch (show false = true from h)
theorem mirB_at {K : PySem.W.Frag} {x y : Str} (h : mirB K x y = true) : ∃ u, PySem.W.nsIn K (He.ga K "MIRROR") x = some (some u) ∧ RelV (.str y) u := by
  unfold mirB at h
  split at h
  · rename_i v e
    exact ⟨v, e, isStr_rel h⟩
  · cases h
structure Tm (K : PySem.W.Frag) (mg : Str → Option Value) (w : World) : Prop where
  MIRROR : mg "MIRROR" = some (.ref (He.ga K "MIRROR"))
  mi : ∀ c : Nat, c = 76 ∨ c = 78 ∨ c = 82 ∨ c = 85 → KDct K w (He.ga K "MIRROR") ⟨#[c]⟩ (.str ⟨#[swp c]⟩)
theorem mirror_of {K : PySem.W.Frag} {w : World} (h : mirrorB K = true) (hd : ∃ es n, KDict K w (He.ga K "MIRROR") es n) {c : Nat} (hc : c = 76 ∨ c = 78 ∨ c = 82 ∨ c = 85) : KDct K w (He.ga K "MIRROR") ⟨#[c]⟩ (.str ⟨#[swp c]⟩) := by
  obtain ⟨es, n, D⟩ := hd
  obtain ⟨h0, h⟩ := He.ba h
  obtain ⟨h1, h⟩ := He.ba h
  obtain ⟨h2, h3⟩ := He.ba h
  rcases hc with rfl | rfl | rfl | rfl
  · obtain ⟨u, e, r⟩ := mirB_at h0
    exact ⟨es, n, u, D.at_, D.lit, e, r⟩
  · obtain ⟨u, e, r⟩ := mirB_at h2
    exact ⟨es, n, u, D.at_, D.lit, e, r⟩
  · obtain ⟨u, e, r⟩ := mirB_at h1
    exact ⟨es, n, u, D.at_, D.lit, e, r⟩
  · obtain ⟨u, e, r⟩ := mirB_at h3
    exact ⟨es, n, u, D.at_, D.lit, e, r⟩
section
variable {K : PySem.W.Frag} {w : World} {σ : L2.St} {S : Sit} {ta tb : TE}
theorem ev_mirror {A : Addr} {c : Nat} (hb : EvD K tb σ S (.str ⟨#[c]⟩)) (h : KDct K w A ⟨#[c]⟩ (.str ⟨#[swp c]⟩)) : EvD K (tOp (rIxD K w) (tC (.ref A)) tb) σ S (.str ⟨#[swp c]⟩) := fun T l Q q =>
  hb T l _ fun y U lU o => by
    have e := Da.str_eq o
    subst e
    exact ⟨A, _, _, rfl, rfl, h, q _ U lU (Da.str _)⟩
def mirKV : List (L2.Key × V) := [(.inr "L", .str "R"), (.inr "R", .str "L")]
theorem mirKV_at {c : Nat} (h : c = 76 ∨ c = 78 ∨ c = 82 ∨ c = 85) : ((valV (mergeK [] mirKV) (.inr ⟨#[c]⟩)).getD (.str ⟨#[c]⟩)) = .str ⟨#[swp c]⟩ := by
  rcases h with rfl | rfl | rfl | rfl <;> decide +kernel
/-- {'L': 'R', 'R': 'L'}.get(sign, sign) -/
theorem ev_dispM {c : Nat} (hb : EvD K tb σ S (.str ⟨#[c]⟩)) (hc : c = 76 ∨ c = 78 ∨ c = 82 ∨ c = 85) :
    EvD K (tDGet2 (tDisp [(tC (.str "L"), tC (.str "R")), (tC (.str "R"), tC (.str "L"))]) tb tb) σ S (.str ⟨#[swp c]⟩) := fun T l Q q p hp => by
  refine ⟨upd_same, mirKV, rfl, by decide, ?_⟩
  rw [upd_upd]
  have ll : Le T (T.pushM p (.dK (mergeK [] mirKV)) hp) := T.pushM_le hp
  refine ⟨p, rfl, .inl ⟨_, .inl upd_same⟩, hb (T.pushM p (.dK (mergeK [] mirKV)) hp) (l.trans ll) _ fun y U lU o => ?_⟩
  have e := Da.str_eq o
  subst e
  refine hb U ((l.trans ll).trans lU) _ fun z W lW o2 => ?_
  have e2 := Da.str_eq o2
  subst e2
  have z := DGet.k (k := .inr ⟨#[c]⟩) ((lU.trans lW).2.1 p _ upd_same)
  refine ⟨_, z, ?_⟩
  rw [mirKV_at hc]
  exact q _ W ((ll.trans lU).trans lW) (Da.str _)
end
/-! ### promises -/
def sp_quarter (K : PySem.W.Frag) : Sp := fun vs H Q _ => ∃ (S : Sit) (x y : Int), S.H = H ∧ Vs K S.G vs [.d (.int x), .d (.int y)] ∧ ∀ v T, Le S T → Da K T.G v (eP (y, 0 - x)) → Q v T.H
def sp_turn_all (K : PySem.W.Frag) : Sp := fun vs H Q _ => ∃ (S : Sit) (wk : Wk) (fl : List Mk) (k : Nat), S.H = H ∧ Vs K S.G vs [.d (eW3 wk), .d (eF fl), .d (.int (k : Nat))] ∧ fl.length ≤ 1000 ∧ k ≤ 1000 ∧ NewP K S (eW3 (tW k wk)) ((sF (tM k) fl).map eM) Q
def sp_mirror_all (K : PySem.W.Frag) : Sp := fun vs H Q _ => ∃ (S : Sit) (wk : Wk) (fl : List Mk), S.H = H ∧ Vs K S.G vs [.d (eW3 wk), .d (eF fl)] ∧ fl.length ≤ 1000 ∧ NewP K S (eW3 (miW wk)) ((sF miM fl).map eM) Q
def sp_plain_of (K : PySem.W.Frag) : Sp := fun vs H Q _ => ∃ (S : Sit) (wk : Wk) (fl : List Mk), S.H = H ∧ Vs K S.G vs [.d (eW3 wk), .d (eF fl)] ∧ fl.length ≤ 1000 ∧ NewL K S ((plF wk fl).map eM) Q
def ansT : Ans := fun K _ fl wk n S Q => NewP K S (eW3 (tW n wk)) ((sF (tM n) fl).map eM) Q
def eTF (wk : Wk) (fl : List Mk) : PyData := .tuple [eW3 wk, eF fl]
theorem ansT_is : AnsIs ansT (fun _ fl wk n => eTF (tW n wk) (sF (tM n) fl)) := fun _ _ _ _ _ _ _ h => NewP.of h
abbrev Ans0 := PySem.W.Frag → Str → List Mk → Wk → Sit → VK → Prop
def sp_ask0 (F : Ans0) (K : PySem.W.Frag) : Sp := fun vs H Q E => ∃ (S : Sit) (r : Str) (wl : List Int) (fl : List Mk), S.H = H ∧ Vs K S.G vs [.d (.str r), .d (eW wl), .d (eF fl)] ∧ Sz r wl fl ∧
  (∀ x, bad3 r wl fl = some x → ∀ T, Le S T → E (.ref (cE K x)) none T.H) ∧ (bad3 r wl fl = none → ∀ wk, wl = w3 wk → F K r fl wk S Q)
def ansMi : Ans0 := fun K _ fl wk S Q => NewP K S (eW3 (miW wk)) ((sF miM fl).map eM) Q
def ansPl : Ans0 := fun K _ fl wk S Q => NewL K S ((plF wk fl).map eM) Q
def ansEv : Ans0 := fun K _ fl wk S Q => ∀ v T, Le S T → Da K T.G v (.bool (decide (sF miM (plF wk fl) = plF wk fl))) → Q v T.H
def Ans0Is (F : Ans0) (g : Str → List Mk → Wk → PyData) : Prop := ∀ K r fl wk S Q, (∀ v T, Le S T → Da K T.G v (g r fl wk) → Q v T.H) → F K r fl wk S Q
theorem ansMi_is : Ans0Is ansMi (fun _ fl wk => eTF (miW wk) (sF miM fl)) := fun _ _ _ _ _ _ h => NewP.of h
theorem ansPl_is : Ans0Is ansPl (fun _ fl wk => eF (plF wk fl)) := fun _ _ _ _ _ _ h => NewL.of h
theorem ansEv_is : Ans0Is ansEv (fun _ fl wk => .bool (decide (sF miM (plF wk fl) = plF wk fl))) := fun _ _ _ _ _ _ h => h
def sp_mirrored_rule (K : PySem.W.Frag) : Sp := fun vs H Q E => ∃ (S : Sit) (r : Str), S.H = H ∧ Vs K S.G vs [.d (.str r)] ∧ r.length ≤ 10000 ∧ (ruleOk r = false → ∀ T, Le S T → E (.ref (cE K "BadRule")) none T.H) ∧ (ruleOk r = true → ∀ v T, Le S T → Da K T.G v (.str (miR r)) → Q v T.H)
def badA (r : Str) (w : List Int) (fl : List Mk) (w2 : List Int) (fl2 : List Mk) : Option Str := match bad3 r w fl with
  | some x => some x
  | none => bad3 r w2 fl2
def sp_are_alike (K : PySem.W.Frag) : Sp := fun vs H Q E => ∃ (S : Sit) (r : Str) (wl : List Int) (fl : List Mk) (wl2 : List Int) (fl2 : List Mk), S.H = H ∧ Vs K S.G vs [.d (.str r), .d (eW wl), .d (eF fl), .d (eW wl2), .d (eF fl2)] ∧ Sz r wl fl ∧ Sz r wl2 fl2 ∧
  (∀ x, badA r wl fl wl2 fl2 = some x → ∀ T, Le S T → E (.ref (cE K x)) none T.H) ∧ (badA r wl fl wl2 fl2 = none → ∀ wk wk2, wl = w3 wk → wl2 = w3 wk2 → ∀ v T, Le S T → Da K T.G v (.bool (decide (plF wk fl = plF wk2 fl2))) → Q v T.H)
section
variable {K : PySem.W.Frag} {σ : L2.St} {S : Sit} {E : XK} {tr : TA} {F : Ans0} {g : Str → List Mk → Wk → PyData} {r : Str} {wk wk2 : Wk} {fl fl2 : List Mk} {k : Nat}
theorem ev_ask0 (hF : Ans0Is F g) (ha : EvA K tr σ S [.d (.str r), .d (eW3 wk), .d (eF fl)]) (hz : Sz r (w3 wk) fl) (hb : bad3 r (w3 wk) fl = none) :
    EvD K (tCall (sp_ask0 F K) [] E tr) σ S (g r fl wk) := fun T l Q q => ha T l _ fun vs U lU hv => by
  rw [List.append_nil]
  refine ⟨U, r, w3 wk, fl, rfl, hv, hz, (fun x e => by rw [hb] at e; cases e), fun _ wk' e => ?_⟩
  cases w3_inj e
  exact hF K r fl wk U Q fun v W lW o => q v W (lU.trans lW) o
theorem ev_alike (ha : EvA K tr σ S [.d (.str r), .d (eW3 wk), .d (eF fl), .d (eW3 wk2), .d (eF fl2)]) (hz : Sz r (w3 wk) fl) (hz2 : Sz r (w3 wk2) fl2) (hb : bad3 r (w3 wk) fl = none) (hb2 : bad3 r (w3 wk2) fl2 = none) :
    EvD K (tCall (sp_are_alike K) [] E tr) σ S (.bool (decide (plF wk fl = plF wk2 fl2))) := fun T l Q q => ha T l _ fun vs U lU hv => by
  rw [List.append_nil]
  have hA : badA r (w3 wk) fl (w3 wk2) fl2 = none := by unfold badA; rw [hb]; exact hb2
  refine ⟨U, r, w3 wk, fl, w3 wk2, fl2, rfl, hv, hz, hz2, (fun x e => by rw [hA] at e; cases e), fun _ a b e1 e2 => ?_⟩
  cases w3_inj e1
  cases w3_inj e2
  exact fun v W lW o => q v W (lU.trans lW) o
theorem ev_mrule (ha : EvA K tr σ S [.d (.str r)]) (hl : r.length ≤ 10000) (hro : ruleOk r = true) : EvD K (tCall (sp_mirrored_rule K) [] E tr) σ S (.str (miR r)) := fun T l Q q => ha T l _ fun vs U lU hv => by
  rw [List.append_nil]
  exact ⟨U, r, rfl, hv, hl, (fun e => by rw [hro] at e; cases e), fun _ v W lW o => q v W (lU.trans lW) o⟩
theorem ev_plain_of (ha : EvA K tr σ S [.d (eW3 wk), .d (eF fl)]) (hl : fl.length ≤ 1000) : EvF K (tCall (sp_plain_of K) [] E tr) σ S ((plF wk fl).map eM) := fun T l Q q => ha T l _ fun vs U lU hv => by
  rw [List.append_nil]
  exact ⟨U, wk, fl, rfl, hv, hl, fun p W lW n o => q p W (lU.trans lW) (Nw.back lU n) o⟩
theorem ev_quarter {x y : Int} (ha : EvA K tr σ S [.d (.int x), .d (.int y)]) : EvD K (tCall (sp_quarter K) [] E tr) σ S (eP (y, 0 - x)) := fun T l Q q => ha T l _ fun vs U lU hv => by
  rw [List.append_nil]
  exact ⟨U, x, y, rfl, hv, fun v W lW o => q v W (lU.trans lW) o⟩
/-- f(..)[1] of a new pair -/
theorem evf_turn1 (ha : EvA K tr σ S [.d (eW3 wk), .d (eF fl), .d (.int (k : Nat))]) (hl : fl.length ≤ 1000) (hk : k ≤ 1000) : EvF K (tOp (rIxT K) (tCall (sp_turn_all K) [] E tr) (tC (.int 1))) σ S ((sF (tM k) fl).map eM) := fun T l Q q => ha T l _ fun vs U lU hv => by
  rw [List.append_nil]
  exact ⟨U, wk, fl, k, rfl, hv, hl, hk, fun tp v p W lW np et dv o => ⟨tp, [v, .ref p], 1, .ref p, rfl, rfl, SqT.of (W.sub _ _ et), rfl, q p W (lU.trans lW) (Nw.back lU np) o⟩⟩
theorem evf_mir1 (ha : EvA K tr σ S [.d (eW3 wk), .d (eF fl)]) (hl : fl.length ≤ 1000) : EvF K (tOp (rIxT K) (tCall (sp_mirror_all K) [] E tr) (tC (.int 1))) σ S ((sF miM fl).map eM) := fun T l Q q => ha T l _ fun vs U lU hv => by
  rw [List.append_nil]
  exact ⟨U, wk, fl, rfl, hv, hl, fun tp v p W lW np et dv o => ⟨tp, [v, .ref p], 1, .ref p, rfl, rfl, SqT.of (W.sub _ _ et), rfl, q p W (lU.trans lW) (Nw.back lU np) o⟩⟩
end
theorem tM_succ (k : Nat) (m : Mk) : tM (k + 1) m = ((tP k (plOf m)).2, 0 - (tP k (plOf m)).1, m.2.2) := rfl
theorem shp_TF (wk : Wk) (fl : List Mk) : Shp 3 (eTF wk fl) := shp_WF wk fl
end MW

set_option Elab.async false
set_option linter.all false
set_option maxRecDepth 100000
set_option maxHeartbeats 4000000
namespace MW
open PySem PySem.Spec PyProof.Rows L2
set_option autoImplicit false
/-! ### a list of lists of one's own -/
def rowL (m : Mk) : List PyData := [.int m.1, .int m.2.1, .int m.2.2]
def rowD (m : Mk) : PyData := .list (rowL m)
structure Nst (K : PySem.W.Frag) (T : Sit) (pn : Addr) (ps : List Addr) (xs : List Mk) : Prop where
  g : T.G pn = none
  h : T.H pn = some (.lst (ps.map V.ref))
  nd : (pn :: ps).Nodup
  ow : Paired (fun p m => Ow K T p (rowL m)) ps xs
theorem Nst.up {K : PySem.W.Frag} {S T : Sit} {pn : Addr} {ps : List Addr} {xs : List Mk} {M : List Addr} (N : Nst K S pn ps xs) (l : Lm M S T) (hM : ∀ q ∈ pn :: ps, q ∉ M) : Nst K T pn ps xs := by
  refine ⟨(l.2.2 pn _ N.h).trans N.g, l.2.1 pn _ (hM pn (by simp)) N.h, N.nd, ?_⟩
  have key : ∀ {qs : List Addr} {ys : List Mk}, Paired (fun p m => Ow K S p (rowL m)) qs ys → (∀ q ∈ qs, q ∉ M) → Paired (fun p m => Ow K T p (rowL m)) qs ys := by
    intro qs ys h
    induction h with
    | nil => intro _; exact .nil
    | cons a _ ih => intro hq; exact .cons (a.lm l (hq _ (by simp))) (ih fun q h => hq q (by simp [h]))
  exact key N.ow fun q hq => hM q (by simp [hq])
theorem Nst.le {K : PySem.W.Frag} {S T : Sit} {pn : Addr} {ps : List Addr} {xs : List Mk} (N : Nst K S pn ps xs) (l : Le S T) : Nst K T pn ps xs := N.up (l.lm []) (by simp)
theorem Nst.dp {K : PySem.W.Frag} {T : Sit} {pn : Addr} {ps : List Addr} {xs : List Mk} (N : Nst K T pn ps xs) : Dp K T.H (.ref pn) (.list (xs.map rowD)) := by
  refine .lst (SqL.of N.h) ?_
  have key : ∀ {qs : List Addr} {ys : List Mk}, Paired (fun p m => Ow K T p (rowL m)) qs ys → DpAll K T.H (qs.map V.ref) (ys.map rowD) := by
    intro qs ys h
    induction h with
    | nil => exact .nil
    | cons a _ ih =>
      obtain ⟨_, zs, e, d⟩ := a
      exact .cons (.lst (SqL.of e) (DaAll.dp (DaAll.up T.sub d))) ih
  exact key N.ow
theorem give_all {K : PySem.W.Frag} : ∀ {ps : List Addr} {xs : List Mk} {T : Sit}, ps.Nodup → Paired (fun p m => Ow K T p (rowL m)) ps xs → ∃ T' : Sit, T'.H = T.H ∧ Same T.G T'.G ∧ (∀ q, q ∉ ps → T'.G q = T.G q) ∧ DaAll K T'.G (ps.map V.ref) (xs.map rowD)
  | [], _, T, _, .nil => ⟨T, rfl, Same.refl _, fun _ _ => rfl, .nil⟩
  | p :: ps, m :: xs, T, nd, .cons a t => by
    obtain ⟨n1, n2⟩ := List.nodup_cons.mp nd
    obtain ⟨T1, a1, a2, a3, a4⟩ := a.give
    have t1 : Paired (fun p m => Ow K T1 p (rowL m)) ps xs := by
      have key : ∀ {qs : List Addr} {ys : List Mk}, Paired (fun p m => Ow K T p (rowL m)) qs ys → (∀ q ∈ qs, q ≠ p) → Paired (fun p m => Ow K T1 p (rowL m)) qs ys := by
        intro qs ys h
        induction h with
        | nil => intro _; exact .nil
        | cons b _ ih => intro hq; exact .cons (b.keepG a1 a2 a4 (hq _ (by simp))) (ih fun q h => hq q (by simp [h]))
      exact key t fun q hq e => n1 (e ▸ hq)
    obtain ⟨T2, b1, b2, b3, b4⟩ := give_all n2 t1
    refine ⟨T2, b1.trans a1, a2.trans b2, fun q hq => ?_, .cons (Da.up b2 a3) b4⟩
    simp at hq
    rw [b3 q hq.2, a4 q hq.1]
theorem Nst.give {K : PySem.W.Frag} {T : Sit} {pn : Addr} {ps : List Addr} {xs : List Mk} (N : Nst K T pn ps xs) : ∃ T' : Sit, T'.H = T.H ∧ Same T.G T'.G ∧ (∀ q, q ∉ pn :: ps → T'.G q = T.G q) ∧ Da K T'.G (.ref pn) (.list (xs.map rowD)) := by
  obtain ⟨n1, n2⟩ := List.nodup_cons.mp N.nd
  obtain ⟨T1, a1, a2, a3, a4⟩ := give_all n2 N.ow
  have h1 : T1.H pn = some (.lst (ps.map V.ref)) := by rw [a1]; exact N.h
  have g1 : T1.G pn = none := by rw [a3 pn n1]; exact N.g
  refine ⟨T1.freeze pn _ h1, a1, a2.trans (T1.freeze_g h1 g1), fun q hq => ?_, Da.lst upd_same (DaAll.up (T1.freeze_g h1 g1) a4)⟩
  simp at hq
  show upd T1.G pn _ q = _
  rw [upd_ne hq.1, a3 q hq.2]
theorem Nst.len {K : PySem.W.Frag} {T : Sit} {pn : Addr} {ps : List Addr} {xs : List Mk} (N : Nst K T pn ps xs) : ps.length = xs.length := Paired.length N.ow
/-- near[i][2] = c -/
theorem Nst.set {K : PySem.W.Frag} {T : Sit} {pn : Addr} {ps : List Addr} {xs : List Mk} (N : Nst K T pn ps xs) {i : Nat} {p : Addr} {m : Mk} (hp : ps[i]? = some p) (hm : xs[i]? = some m) (c : Int) : ∃ (ys : List V) (U : Sit), T.H p = some (.lst ys) ∧ ys.length = 3 ∧ U.H = upd T.H p (.lst (ys.set 2 (.int c))) ∧ Lm [p] T U ∧ Nst K U pn ps (xs.set i (m.1, m.2.1, c)) := by
  have pw : ∀ {qs : List Addr} {zs : List Mk} {i : Nat}, Paired (fun p m => Ow K T p (rowL m)) qs zs → qs[i]? = some p → zs[i]? = some m → Ow K T p (rowL m) := by
    intro qs zs i h
    induction h generalizing i with
    | nil => intro e; simp at e
    | cons a _ ih =>
      cases i with
      | zero => intro e1 e2; simp at e1 e2; subst e1 e2; exact a
      | succ i => intro e1 e2; exact ih (by simpa using e1) (by simpa using e2)
  have o := pw N.ow hp hm
  obtain ⟨ys, e1, e2, U, eU, lU, oU⟩ := o.set (d := .int c) (Da.int c) 2
  refine ⟨ys, U, e1, e2, eU, lU, ?_⟩
  obtain ⟨n1, n2⟩ := List.nodup_cons.mp N.nd
  have hpm : p ∈ ps := List.mem_of_getElem? hp
  have npn : pn ≠ p := fun e => n1 (e ▸ hpm)
  refine ⟨(lU.2.2 pn _ N.h).trans N.g, lU.2.1 pn _ (by simp [npn]) N.h, N.nd, ?_⟩
  have key : ∀ {qs : List Addr} {zs : List Mk} {i : Nat}, Paired (fun p m => Ow K T p (rowL m)) qs zs → qs.Nodup → qs[i]? = some p → zs[i]? = some m → Paired (fun p m => Ow K U p (rowL m)) qs (zs.set i (m.1, m.2.1, c)) := by
    intro qs zs i h
    induction h generalizing i with
    | nil => intro _ e; simp at e
    | @cons q z qs zs a t ih =>
      intro nd e1 e2
      obtain ⟨d1, d2⟩ := List.nodup_cons.mp nd
      have keep : ∀ {as : List Addr} {bs : List Mk}, Paired (fun p m => Ow K T p (rowL m)) as bs → (∀ x ∈ as, x ≠ p) → Paired (fun p m => Ow K U p (rowL m)) as bs := by
        intro as bs h
        induction h with
        | nil => intro _; exact .nil
        | cons b _ ih2 => intro hq; exact .cons (b.lm lU (by simp [hq _ (List.mem_cons_self ..)])) (ih2 fun q h => hq q (by simp [h]))
      cases i with
      | zero =>
        simp at e1 e2
        subst e1 e2
        exact .cons oU (keep t fun x hx e => d1 (e ▸ hx))
      | succ i =>
        have e1' : qs[i]? = some p := by simpa using e1
        have ne : q ≠ p := fun e => d1 (e ▸ List.mem_of_getElem? e1')
        exact .cons (a.lm lU (by simp [ne])) (ih d2 e1' (by simpa using e2))
  exact key N.ow n2 hp hm
/-- [list(mark) for mark in floor] -/
theorem lc_lists {K : PySem.W.Frag} {σ : L2.St} {S : Sit} {δ : List Sl} {tl : TE} {iw : Nat} {xs : List Mk} (hE : Sv K S.G σ δ) (hl : EvD K tl σ S (eF xs)) (hlw : iw < δ.length) (hn : xs.length ≤ 900000) (Q : VK) (k : ∀ pn ps U, Le S U → (∀ q ∈ pn :: ps, S.H q = none) → Nst K U pn ps xs → Q (.ref pn) U.H) :
    tLc (iList K tl) (gName iw) tYes (tCB (rLstOf K) (tCons (tVar iw) tNil)) [iw] σ S.H Q :=
  (ei_list hl) S (Le.refl S) _ fun J U l hJ X hX => by
    have hlen : (xs.map eM).length = xs.length := List.length_map _
    have hXS : S.H X = none := (Nw.back l (Nw.of hX)).none
    let I : Nat → Hp → Prop := fun i H => ∃ (T : Sit) (ps : List Addr), T.H = H ∧ Le U T ∧ (∀ q ∈ ps, S.H q = none) ∧ Nst K T X ps (xs.take i)
    refine ⟨fun i m H => m = xs.length - i ∧ i ≤ xs.length ∧ I i H, ⟨xs.length, by simp, Nat.zero_le _, U.pushM X _ hX, [], rfl, U.pushM_le hX, (fun _ h => nomatch h), ⟨U.gfree hX, upd_same, by simp, .nil⟩⟩, ?_⟩
    rintro i m H ⟨rfl, hle, T, ps, rfl, lU, hps, N⟩
    obtain ⟨j1, j2, j3⟩ := hJ T lU.g
    by_cases hlt : i < xs.length
    · have hget : (xs.map eM)[i]? = some (eM xs[i]) := by rw [List.getElem?_map, List.getElem?_eq_getElem hlt]; rfl
      have htake : xs.take (i + 1) = xs.take i ++ [xs[i]] := by rw [List.take_add_one, List.getElem?_eq_getElem hlt]; rfl
      refine .inr ⟨j1 i (by rw [hlen]; exact hlt), I (i + 1), fun H' hN => ⟨xs.length - (i + 1), by omega, rfl, hlt, hN⟩, fun x H' hy => ?_⟩
      obtain ⟨e, hx⟩ := j3 i _ x H' hget hy
      subst e
      refine tg_name (i := iw) x _ T _ hx fun σ' h1 h2 => ⟨(h2 [iw] (by simp)).trans (by show wipe (wipe σ [iw]) [iw] = _; exact List.set_set ..), ?_⟩
      have lST : Le S T := l.trans lU
      have hE' : Sv K T.G σ' ((δ.set iw .non).set iw (.d (eM xs[i]))) := h1 _ ((hE.up lST.g).wipe [iw])
      have g1 : ((δ.set iw Sl.non).set iw (.d (eM xs[i])))[iw]? = some (.d (eM xs[i])) := List.getElem?_set_self (by simpa using hlw)
      refine iteT (B := I (i + 1) T.H) ?_
      refine ev_var hE' g1 T (Le.refl T) _ fun v V0 lV oV => ?_
      obtain ⟨a, zs, rfl, e1, e2⟩ := Da.tup_eq oV
      refine ⟨a, zs, rfl, .inr (SqT.of (V0.sub _ _ e1)), fun p hp => ?_⟩
      have lW : Le V0 (V0.pushM p (.lst zs) hp) := V0.pushM_le hp
      have NV := (N.le lV).le lW
      have hpS : S.H p = none := (Nw.back (lST.trans lV) (Nw.of hp)).none
      have npX : p ≠ X := fun e => by have := (N.le lV).h; rw [← e, hp] at this; cases this
      have npp : p ∉ ps := fun hq => by
        have key : ∀ {qs : List Addr} {ys : List Mk}, Paired (fun p m => Ow K V0 p (rowL m)) qs ys → p ∈ qs → False := by
          intro qs ys h
          induction h with
          | nil => intro z; cases z
          | cons b _ ih =>
            intro z
            rcases List.mem_cons.mp z with rfl | z
            · obtain ⟨o, ho⟩ := b.has; rw [hp] at ho; cases ho
            · exact ih z
        exact key (N.le lV).ow hq
      refine ⟨ps.map V.ref, NV.h, szl (by rw [List.length_map, NV.len, List.length_take]; omega), (V0.pushM p (.lst zs) hp).mut X (.lst (ps.map V.ref ++ [.ref p])) NV.g, ps ++ [p], rfl, ?_, fun q hq => ?_, ?_⟩
      · have l1 := (lU.trans lV).trans lW
        refine ⟨l1.1, fun b o hb => ?_, l1.2.2⟩
        show upd _ X _ b = some o
        have nb : b ≠ X := fun z => by rw [z, hX] at hb; cases hb
        rw [upd_ne nb]
        exact l1.2.1 b o hb
      · rcases List.mem_append.mp hq with hq | hq
        · exact hps q hq
        · rw [List.mem_singleton.mp hq]; exact hpS
      · refine ⟨NV.g, by rw [List.map_append]; exact upd_same, ?_, ?_⟩
        · have nd := N.nd
          rw [← List.cons_append]
          exact List.nodup_append.mpr ⟨nd, by simp, fun b hb c hc e => by
            rw [List.mem_singleton.mp hc] at e
            rcases List.mem_cons.mp hb with h | h
            · exact npX (by rw [← e, h])
            · exact npp (e ▸ h)⟩
        · rw [htake]
          have lmX : Lm [X] (V0.pushM p (.lst zs) hp) ((V0.pushM p (.lst zs) hp).mut X (.lst (ps.map V.ref ++ [.ref p])) NV.g) := ⟨Same.refl _, fun b o hb h => by
            show upd _ X _ b = some o
            rw [upd_ne (fun z => hb (by simp [z]))]
            exact h, fun _ _ _ => rfl⟩
          have app : ∀ {qs : List Addr} {ys : List Mk}, Paired (fun q m => Ow K (V0.pushM p (.lst zs) hp) q (rowL m)) qs ys → (∀ q ∈ qs, q ≠ X) → Paired (fun q m => Ow K ((V0.pushM p (.lst zs) hp).mut X (.lst (ps.map V.ref ++ [.ref p])) NV.g) q (rowL m)) (qs ++ [p]) (ys ++ [xs[i]]) := by
            intro qs ys h
            induction h with
            | nil =>
              intro _
              have op : Ow K (V0.pushM p (.lst zs) hp) p (rowL xs[i]) := ⟨V0.gfree hp, zs, upd_same, e2⟩
              exact .cons (op.lm lmX (by simp [npX])) .nil
            | cons b _ ih => intro hq; exact .cons (b.lm lmX (by simp [hq _ (List.mem_cons_self ..)])) (ih fun q h => hq q (by simp [h]))
          exact app NV.ow fun q hq e => (List.nodup_cons.mp N.nd).1 (e ▸ hq)
    · have e : i = xs.length := by omega
      subst e
      refine .inl ⟨by rw [hlen] at j2; exact j2, ?_⟩
      rw [List.take_length] at N
      exact k X ps T (l.trans lU) (fun q hq => by rcases List.mem_cons.mp hq with rfl | hq; exact hXS; exact hps q hq) N
end MW

set_option Elab.async false
set_option linter.all false
set_option maxRecDepth 100000
set_option maxHeartbeats 4000000
namespace MW
open PySem PySem.Spec PyProof.Rows L2
set_option autoImplicit false
/-! ### tables -/
theorem at_seen {a b h : Int} (h0 : 0 ≤ h) (h4 : h < 4) : L2.atI [eP (a, b), eP (0 - b, a), eP (0 - a, 0 - b), eP (b, 0 - a)] h = some (eP (tP ((4 - h) % 4).toNat (a, b))) := by
  have : h = 0 ∨ h = 1 ∨ h = 2 ∨ h = 3 := by omega
  rcases this with rfl | rfl | rfl | rfl
  · rfl
  · show some (eP (0 - b, a)) = some (eP (rot (rot (rot (a, b)))))
    unfold rot
    simp
  · rfl
  · rfl
theorem at_turn {a b : Int} {k : Nat} (h4 : k < 4) : L2.atI [eP (a, b), eP (b, 0 - a), eP (0 - a, 0 - b), eP (0 - b, a)] ((k : Nat) : Int) = some (eP (tP k (a, b))) := by
  have : k = 0 ∨ k = 1 ∨ k = 2 ∨ k = 3 := by omega
  rcases this with rfl | rfl | rfl | rfl
  · rfl
  · rfl
  · rfl
  · show some (eP (0 - b, a)) = some (eP (rot (rot (rot (a, b)))))
    unfold rot
    simp
theorem at_mirH {h : Int} (h0 : 0 ≤ h) (h4 : h < 4) : L2.atI [PyData.int 0, .int 3, .int 2, .int 1] h = some (.int ((4 - h) % 4)) := by
  have : h = 0 ∨ h = 1 ∨ h = 2 ∨ h = 3 := by omega
  rcases this with rfl | rfl | rfl | rfl <;> rfl
theorem miM_miM (m : Mk) : miM (miM m) = m := by
  unfold miM
  refine Prod.ext ?_ rfl
  show 0 - (0 - m.1) = m.1
  omega
theorem miF_miF {fl : List Mk} (h : (fl.map plOf).Pairwise plt) : sF miM (sF miM fl) = fl := by
  rw [sF_sF, show (fun m => miM (miM m)) = fun m => m from funext miM_miM]
  exact sF_id h
theorem miW_miW {w : Wk} (h0 : 0 ≤ w.2.2) (h4 : w.2.2 < 4) : miW (miW w) = w := by
  unfold miW
  refine Prod.ext ?_ (Prod.ext rfl ?_)
  · show 0 - (0 - w.1) = w.1
    omega
  · show (4 - (4 - w.2.2) % 4) % 4 = w.2.2
    omega
/-! ### good turned, good mirrored -/
theorem turn_ok {n k : Nat} {wk : Wk} {fl : List Mk} (hw : wOk (w3 wk) = true) (hf : floorOk n fl = true) : wOk (w3 (tW k wk)) = true ∧ floorOk n (sF (tM k) fl) = true := by
  obtain ⟨wk', e, a, b, c⟩ := wOk_at hw
  cases w3_inj e
  obtain ⟨f1, f2, f3⟩ := floorOk_at hf
  constructor
  · obtain ⟨h1, h2⟩ := tP_far (k := k) (p := plW wk) (n := 100) ⟨a, b⟩
    exact w3_ok (wk := tW k wk) h1 h2 ⟨Int.emod_nonneg _ (by decide), Int.emod_lt_of_pos _ (by decide)⟩
  · refine (mv_turn k).ok hf fun m hm => tP_far ?_
    have z := f2 m hm
    unfold markOk at z
    simp only [Bool.and_eq_true, decide_eq_true_eq] at z
    show (-100 ≤ m.1 ∧ m.1 ≤ 100) ∧ -100 ≤ m.2.1 ∧ m.2.1 ≤ 100
    omega
theorem mir_ok {n : Nat} {wk : Wk} {fl : List Mk} (hw : wOk (w3 wk) = true) (hf : floorOk n fl = true) : wOk (w3 (miW wk)) = true ∧ floorOk n (sF miM fl) = true := by
  obtain ⟨wk', e, a, b, c⟩ := wOk_at hw
  cases w3_inj e
  obtain ⟨f1, f2, f3⟩ := floorOk_at hf
  constructor
  · exact w3_ok (wk := miW wk) (by show -100 ≤ 0 - wk.1 ∧ 0 - wk.1 ≤ 100; omega) b ⟨Int.emod_nonneg _ (by decide), Int.emod_lt_of_pos _ (by decide)⟩
  · refine mv_mir.ok hf fun m hm => ?_
    have z := f2 m hm
    unfold markOk at z
    simp only [Bool.and_eq_true, decide_eq_true_eq] at z
    show (-100 ≤ 0 - m.1 ∧ 0 - m.1 ≤ 100) ∧ -100 ≤ m.2.1 ∧ m.2.1 ≤ 100
    omega
theorem set_ok {n i : Nat} {fl : List Mk} {m : Mk} {c : Int} (hf : floorOk n fl = true) (hm : fl[i]? = some m) (h1 : 1 ≤ c) (h2 : c < (n : Int)) : floorOk n (fl.set i (m.1, m.2.1, c)) = true := by
  obtain ⟨f1, f2, f3⟩ := floorOk_at hf
  have hl := (List.getElem?_eq_some_iff.mp hm).1
  have he := (List.getElem?_eq_some_iff.mp hm).2
  refine floorOk_of (by rw [List.length_set]; exact f1) (fun x hx => ?_) ?_
  · rcases List.mem_or_eq_of_mem_set hx with h | h
    · exact f2 x h
    · subst h
      have z := f2 m (he ▸ List.getElem_mem hl)
      unfold markOk at z ⊢
      simp only [Bool.and_eq_true, decide_eq_true_eq] at z ⊢
      omega
  · have e : (fl.set i (m.1, m.2.1, c)).map plOf = fl.map plOf := by
      rw [List.map_set]
      have : (fl.map plOf)[i]? = some (plOf m) := by rw [List.getElem?_map, hm]; rfl
      exact List.ext_getElem? fun j => by
        by_cases q : j = i
        · subst q
          rw [List.getElem?_set_self (by simpa using hl), this]
          rfl
        · rw [List.getElem?_set_ne (fun z => q z.symm)]
    rw [e]
    exact f3
theorem canLay_rule {r : Str} (h : ruleOk r = true) : PyData.canLay0 (.str r) = true := by
  show PyData.strOk r = true
  have s := rule_signs h
  unfold PyData.strOk
  rw [← Array.all_toList, List.all_eq_true]
  intro c hc
  rcases s c hc with rfl | rfl | rfl | rfl <;> decide
/-! ### promises of the law's own -/
def told20 (fl : List Mk) (wk : Wk) (n : Int) : PyData := if mOk n 3 = true then eTF (tW n.toNat wk) (sF (tM n.toNat) fl) else eRef "BadNumber"
def sp_told20 (K : PySem.W.Frag) : Sp := fun vs H Q _ => ∃ (S : Sit) (r : Str) (wk : Wk) (fl : List Mk) (n : Int), S.H = H ∧ Vs K S.G vs [.d (.str r), .d (eW3 wk), .d (eF fl), .d (.int n)] ∧ ruleOk r = true ∧ wOk (w3 wk) = true ∧ floorOk r.length fl = true ∧ ∀ v T, Le S T → Da K T.G v (told20 fl wk n) → Q v T.H
def sp__law_seen (K : PySem.W.Frag) : Sp := fun vs H Q _ => ∃ (S : Sit) (wk : Wk) (fl : List Mk), S.H = H ∧ Vs K S.G vs [.d (eW3 wk), .d (eF fl)] ∧ 0 ≤ wk.2.2 ∧ wk.2.2 < 4 ∧ fl.length ≤ 1000 ∧ ∀ v T, Le S T → Da K T.G v (eF (plF wk fl)) → Q v T.H
def sp_lawb (K : PySem.W.Frag) : Sp := fun vs H Q _ => ∃ (S : Sit) (a t : Addr) (ns : List Int) (r : Str) (wk : Wk) (fl : List Mk) (b : Nat), S.H = H ∧ Vs K S.G vs [.v (.ref a), .v (.ref t), .d (.str r), .d (eW3 wk), .d (eF fl)] ∧ SqL K S.G a (ns.map V.int) ∧ Town S t (b + 2) ∧ ruleOk r = true ∧ wOk (w3 wk) = true ∧ floorOk r.length fl = true ∧ ∀ T, Lt t S T → Town T t b → Q (.bl true) T.H
theorem Town.lm {S T : Sit} {t p : Addr} {b : Nat} (h : Town S t b) (l : Lm [p] S T) (ne : t ≠ p) : Town T t b := by
  obtain ⟨g, n, hn, e⟩ := h
  exact ⟨(l.2.2 t _ e).trans g, n, hn, l.2.1 t _ (by simp [ne]) e⟩
theorem lt_near {S U T T' : Sit} {t pn : Addr} {ps : List Addr} (l : Le S U) (hn : ∀ q ∈ pn :: ps, S.H q = none) (lm : Lm (t :: ps) U T) (hH : T'.H = T.H) (g : Same T.G T'.G) (hq : ∀ q, q ∉ pn :: ps → T'.G q = T.G q) : Lt t S T' := by
  refine ⟨l.1.trans (lm.1.trans g), fun a o na ha => ?_, fun a o ha => ?_⟩
  · rw [hH]
    refine lm.2.1 a o (fun z => ?_) (l.2.1 a o ha)
    rcases List.mem_cons.mp z with e | e
    · exact na (by simp [e])
    · rw [hn a (by simp [e])] at ha
      cases ha
  · have na : a ∉ pn :: ps := fun z => by rw [hn a z] at ha; cases ha
    exact (hq a na).trans ((lm.2.2 a o (l.2.1 a o ha)).trans (l.2.2 a o ha))
theorem cut_take (xs : List PyData) (n : Nat) : cutD xs none (some ((n : Nat) : Int)) = xs.take n := by
  unfold cutD HT.sIx
  simp only [List.drop_zero, Nat.sub_zero]
  rw [if_neg (by omega)]
  by_cases h : n ≤ xs.length
  · congr 1
    omega
  · rw [List.take_of_length_le (l := xs) (i := n) (by omega)]
    rw [List.take_of_length_le]
    omega
section
variable {K : PySem.W.Frag} {σ : L2.St} {S : Sit} {δ : List Sl} {E : XK} {tr : TA} {ta tb te ti tn : TE} {X D : Ends} {r : Str} {wk : Wk} {fl xs : List Mk} {t pn : Addr} {ps : List Addr} {b b1 b2 : Nat}
theorem ev_told20 {n : Int} (ha : EvA K tr σ S [.d (.str r), .d (eW3 wk), .d (eF fl), .d (.int n)]) (hro : ruleOk r = true) (hw : wOk (w3 wk) = true) (hf : floorOk r.length fl = true) : EvD K (tCall (sp_told20 K) [] E tr) σ S (told20 fl wk n) := fun T l Q q => ha T l _ fun vs U lU hv => by
  rw [List.append_nil]
  exact ⟨U, r, wk, fl, n, rfl, hv, hro, hw, hf, fun v W lW o => q v W (lU.trans lW) o⟩
theorem ev_seen (ha : EvA K tr σ S [.d (eW3 wk), .d (eF fl)]) (h0 : 0 ≤ wk.2.2) (h4 : wk.2.2 < 4) (hl : fl.length ≤ 1000) : EvD K (tCall (sp__law_seen K) [] E tr) σ S (eF (plF wk fl)) := fun T l Q q => ha T l _ fun vs U lU hv => by
  rw [List.append_nil]
  exact ⟨U, wk, fl, rfl, hv, h0, h4, hl, fun v W lW o => q v W (lU.trans lW) o⟩
/-- last = _law_went(..) -/
theorem st_wentT {n i : Nat} (hE : Sv K S.G σ δ) (ha : EvA K tr σ S [.d (.str r), .d (eW3 wk), .d (eF fl), .d (.int (n : Nat))]) (hro : ruleOk r = true) (hc : ∀ m ∈ fl, 0 ≤ m.2.2 ∧ m.2.2 < (r.length : Int)) (hl : fl.length ≤ 100000) (hn : n ≤ 100000)
    (q : ∀ tp v1 v2 p σ' T, Le S T → T.G tp = some (.tup [v1, v2, .ref p]) → Da K T.G v1 (.list ((goWs r (marksD fl, wk) n).map eW3)) → Sv K T.G σ' (δ.set i (.v (.ref tp))) → X.nx σ' T.H) :
    tAsg (tCall (sp__law_went K) [] E tr) (gName i) X σ S.H :=
  ha S (Le.refl S) _ fun vs T l hv => by
    rw [List.append_nil]
    refine ⟨T, r, wk, fl, n, rfl, hv, hro, hc, hl, hn, fun tp v1 v2 p U lU np et d1 d2 dD => ?_⟩
    exact q tp v1 v2 p _ U (l.trans lU) et d1 (Sv.set (slOk_v (K := K) (G := U.G) (.ref tp)) i (hE.up (l.trans lU).g))
theorem ev_wentT0 {tp : Addr} {v1 v2 v3 : V} {d : PyData} (ha : Ev K ta σ S (.v (.ref tp))) (h : S.G tp = some (.tup [v1, v2, v3])) (o : Da K S.G v1 d) : EvD K (tOp (rIxT K) ta (tC (.int 0))) σ S d := fun T l Q q => ha T l _ fun v U lU oU => by
  cases (show some v = some (V.ref tp) from oU)
  exact ⟨tp, [v1, v2, v3], 0, v1, rfl, rfl, SqT.of (U.sub _ _ ((l.trans lU).g _ _ h)), rfl, q v1 U lU (Da.up (l.trans lU).g o)⟩
/-- _law_went(..)[0] -/
theorem ev_went0 {n : Nat} (ha : EvA K tr σ S [.d (.str r), .d (eW3 wk), .d (eF fl), .d (.int (n : Nat))]) (hro : ruleOk r = true) (hc : ∀ m ∈ fl, 0 ≤ m.2.2 ∧ m.2.2 < (r.length : Int)) (hl : fl.length ≤ 100000) (hn : n ≤ 100000) :
    EvD K (tOp (rIxT K) (tCall (sp__law_went K) [] E tr) (tC (.int 0))) σ S (.list ((goWs r (marksD fl, wk) n).map eW3)) := fun T l Q q => ha T l _ fun vs U lU hv => by
  rw [List.append_nil]
  exact ⟨U, r, wk, fl, n, rfl, hv, hro, hc, hl, hn, fun tp v1 v2 p W lW np et d1 d2 dD => ⟨tp, [v1, v2, .ref p], 0, v1, rfl, rfl, SqT.of (W.sub _ _ et), rfl, q v1 W (lU.trans lW) d1⟩⟩
theorem ev_neN (ha : Ev K ta σ S (.v (.ref pn))) (N : Nst K S pn ps xs) (hl : EvD K tb σ S (.list [])) : EvD K (tOp (rNeD K) ta tb) σ S (.bool (!decide (xs = []))) :=
  ev_two ha hl fun T x y l hx hy Q q => by
    cases (show some x = some (V.ref pn) from hx)
    have sh : SeqAt.shaped (.list (xs.map rowD)) = true := (shp_map (n := 1) (fun m => shp_list fun d hd => by
      simp [rowL] at hd
      rcases hd with rfl | rfl | rfl <;> exact shp_int _) xs).to (by decide)
    have e : PyData.eqv (.list (xs.map rowD)) (.list []) = decide (xs = []) := by
      cases xs <;> rfl
    refine ⟨.list (xs.map rowD), .list [], (N.le l).dp, (Da.up T.sub hy).dp, sh, rfl, ?_⟩
    rw [e]
    exact q _ T (Le.refl T) (Da.bl _)
theorem ev_lenN (ha : Ev K ta σ S (.v (.ref pn))) (N : Nst K S pn ps xs) : EvD K (tCB (rLen K) (tCons ta tNil)) σ S (.int (xs.length : Nat)) :=
  ev_cb1 ha fun T x l hx Q q => by
    cases (show some x = some (V.ref pn) from hx)
    refine ⟨_, (ps.map V.ref).length, rfl, .inl ⟨_, SqL.of (N.le l).h, rfl⟩, ?_⟩
    rw [List.length_map, N.len]
    exact q _ T (Le.refl T) (Da.int _)
theorem st_near {φ : Int → Prop} (he : EvN K t te σ S b b1 (fun d => ∃ c, d = .int c ∧ φ c)) (hn : ∀ T, Same S.G T.G → Ev K tn σ T (.v (.ref pn))) (hi : EvN K t ti σ S b1 b2 (fun d => ∃ i : Nat, d = .int (i : Nat) ∧ i < xs.length)) (N : Nst K S pn ps xs) (ht : Town S t b) (hnt : t ∉ pn :: ps)
    (k : ∀ T zs, Lm (t :: ps) S T → Town T t b2 → Nst K T pn ps zs → (∃ i m c, xs[i]? = some m ∧ φ c ∧ zs = xs.set i (m.1, m.2.1, c)) → X.nx σ T.H) :
    tAsg te (gSub (tOp (rIxL K) tn ti) (tC (.int 2)) rSetL) X σ S.H :=
  he S (Lt.refl S) ht _ fun d y U hd lU tU oU => by
    obtain ⟨c, rfl, hc⟩ := hd
    have ey := Da.int_eq oU
    subst ey
    refine hn U lU.g U (Le.refl U) _ fun v W lW oW => ?_
    cases (show some v = some (V.ref pn) from oW)
    have lSW : Lt t S W := Lt.trans lU (lW.lm _) tU.has
    refine hi W lSW (tU.up lW) _ fun d z Z hd lZ tZ oZ => ?_
    obtain ⟨i, rfl, hi'⟩ := hd
    have ez := Da.int_eq oZ
    subst ez
    have lSZ : Lt t S Z := Lt.trans lSW lZ (tU.up lW).has
    have NZ := N.up lSZ (fun q hq z => hnt (by rw [← List.mem_singleton.mp z]; exact hq))
    have hl := NZ.len
    have hp : ps[i]? = some ps[i] := List.getElem?_eq_getElem (by omega)
    have hm : xs[i]? = some xs[i] := List.getElem?_eq_getElem hi'
    refine ⟨pn, ps.map V.ref, (i : Nat), .ref ps[i], rfl, rfl, SqL.of NZ.h, ?_, ?_⟩
    · unfold L2.atI ixN
      rw [if_pos (by omega), if_pos (by rw [List.length_map]; omega)]
      show (ps.map V.ref)[((i : Nat) : Int).toNat]? = _
      rw [Int.toNat_natCast, List.getElem?_map, hp]
      rfl
    obtain ⟨ys, U2, e1, e2, eU2, lU2, N2⟩ := NZ.set hp hm c
    refine ⟨ps[i], ys, 2, 2, rfl, rfl, e1, by rw [e2]; rfl, ?_⟩
    show X.nx σ (upd Z.H ps[i] (.lst (ys.set 2 (.int c))))
    rw [← eU2]
    have pm : ps[i] ∈ ps := List.getElem_mem _
    have ntp : t ≠ ps[i] := fun e => hnt (by rw [e]; exact List.mem_cons_of_mem _ pm)
    have lA := lSZ.transM lU2 (fun x hx => by simp at hx; subst hx; exact ⟨_, e1⟩) (fun x hx => by simp at hx; subst hx; exact tZ.has)
    exact k U2 _ ⟨lA.1, fun a o na ha => lA.2.1 a o (fun z => na (by
      rcases List.mem_append.mp z with z | z
      · simp at z; simp [z]
      · simp at z; rw [z]; exact List.mem_cons_of_mem _ pm)) ha, lA.2.2⟩ (tZ.lm lU2 ntp) N2 ⟨i, _, c, hm, hc, rfl⟩
theorem st_par2 {i j : Nat} {d e : PyData} (hE : Sv K S.G σ δ) (h1 : EvD K ta σ S d) (h2 : EvD K tb σ S e) (k : ∀ σ' T, Le S T → Sv K T.G σ' ((δ.set i (.d d)).set j (.d e)) → X.nx σ' T.H) : tPar i j (tCons ta (tCons tb tNil)) X σ S.H :=
  h1 S (Le.refl S) _ fun v U l o => h2 U l _ fun z W lW oW => ⟨v, z, rfl, k _ W (l.trans lW) (Sv.set (slOk_d oW) j (Sv.set (slOk_d (Da.up lW.g o)) i (hE.up (l.trans lW).g)))⟩
theorem st_lists {tl : TE} {i iw : Nat} (hE : Sv K S.G σ δ) (hl : EvD K tl σ S (eF xs)) (hlw : iw < δ.length) (hn : xs.length ≤ 900000) (k : ∀ pn ps σ' U, Le S U → (∀ q ∈ pn :: ps, S.H q = none) → Nst K U pn ps xs → Sv K U.G σ' (δ.set i (.v (.ref pn))) → X.nx σ' U.H) :
    tAsg (tLc (iList K tl) (gName iw) tYes (tCB (rLstOf K) (tCons (tVar iw) tNil)) [iw]) (gName i) X σ S.H :=
  lc_lists hE hl hlw hn _ fun pn ps U l nw N => k pn ps _ U l nw N (Sv.set (slOk_v (K := K) (G := U.G) (.ref pn)) i (hE.up l.g))
theorem st_lawb2 {tr2 : TA} {a : Addr} {ns : List Int} (ha : ∀ T, Same S.G T.G → EvA K tr σ T [.v (.ref a), .v (.ref t), .d (.str r), .d (eW3 wk), .d (eF fl)]) (ha2 : ∀ T, Same S.G T.G → EvA K tr2 σ T [.v (.ref a), .v (.ref t), .d (.str r), .d (eW3 wk), .d (eF fl)]) (hs : SqL K S.G a (ns.map V.int)) (ht : Town S t (b + 4)) (hro : ruleOk r = true) (hw : wOk (w3 wk) = true) (hfl : floorOk r.length fl = true) (k : ∀ H, D.rt (.bl true) H) :
    tRet (tAndV (tCall (sp_lawb K) [] E tr) (tCall (sp_lawb K) [] E tr2)) D σ S.H := by
  have z := ha S (Same.refl _) S (Le.refl S) (fun vs H1 => sp_lawb K (vs ++ []) H1 (fun x H1 => ∃ c, x = .bl c ∧ if c = true then tCall (sp_lawb K) [] E tr2 σ H1 D.rt else D.rt (.bl false) H1) E) fun vs T8 l8 hv8 => by
    rw [List.append_nil]
    refine ⟨T8, a, t, ns, r, wk, fl, b + 2, rfl, hv8, l8.g.seq hs, ht.up l8, hro, hw, hfl, fun T9 l9 t9 => ⟨true, rfl, iteT ?_⟩⟩
    have y := ha2 T9 (l8.g.trans l9.g) T9 (Le.refl T9) (fun vs H1 => sp_lawb K (vs ++ []) H1 D.rt E) fun vs T10 l10 hv10 => by
      rw [List.append_nil]
      exact ⟨T10, a, t, ns, r, wk, fl, b, rfl, hv10, l10.g.seq (l9.g.seq (l8.g.seq hs)), t9.up l10, hro, hw, hfl, fun T11 l11 t11 => k _⟩
    exact y
  exact z
/-- a test that draws, both ways together behind it -/
theorem st_ifJ {t1 : TS} (J : L2.St → Sit → Prop) (ht : Town S t b) (he : EvN K t te σ S b b1 (fun d => ∃ c, d = .bool c)) (hk : ∀ σ' T, J σ' T → D.nx σ' T.H) (h1 : ∀ T, Lt t S T → Town T t b1 → (∀ σ' T', J σ' T' → D.nx σ' T'.H) → t1 D σ T.H) (h2 : ∀ T, Lt t S T → Town T t b1 → J σ T) : tIfS (tTest te) t1 tNext D σ S.H :=
  he S (Lt.refl S) ht _ fun d v V hd lV tV o => by
    obtain ⟨c, rfl⟩ := hd
    have ev := Da.bl_eq o
    subst ev
    refine ⟨c, rfl, ?_⟩
    cases c with
    | true => exact iteT (h1 V lV tV hk)
    | false => exact iteF (hk σ V (h2 V lV tV))
end
end MW

set_option Elab.async false
set_option linter.all false
set_option maxRecDepth 100000
set_option maxHeartbeats 4000000
namespace MW
open PySem PySem.Spec PyProof.Rows L2
set_option autoImplicit false
/-! ### texts: plain law -/
abbrev Cs := List Nat
def strL (i : Int) : Cs := if i < 0 then 45 :: TL.numL i.natAbs else TL.numL i.natAbs
def plL (p : Pl) : Cs := strL p.1 ++ 44 :: strL p.2
def hdL : Cs := [94, 62, 118, 60]
def hdC (h : Int) : Nat := hdL.getD h.toNat 0
def wkL (w : Wk) : Cs := plL (plW w) ++ [hdC w.2.2]
def mkL (m : Mk) : Cs := plL (plOf m) ++ 58 :: strL m.2.2
def wrL (r : Cs) (w : Wk) (f : List Mk) : Cs := TL.joinL [32] (r :: wkL w :: f.map mkL)
/-! the program's reading -/
def isFig (c : Nat) : Bool := decide (c ∈ [48, 49, 50, 51, 52, 53, 54, 55, 56, 57])
def figs (w : Cs) : Cs := if w.take 1 = [45] then w.drop 1 else w
def numP (w : Cs) : Option Int := if (decide (1 ≤ (figs w).length) && decide ((figs w).length ≤ 3)) && (figs w).all isFig then some (if w.take 1 = [45] then 0 - ((NumText.digitsVal (figs w) : Nat) : Int) else ((NumText.digitsVal (figs w) : Nat) : Int)) else none
def two {α : Type} (f : Cs → Cs → Option α) : List Cs → Option α
  | [a, b] => f a b
  | _ => none
def spC (c : Nat) (w : Cs) : List Cs := TL.spl [c] 0 [] w
def plP (w : Cs) : Option Pl := two (fun a b => match numP a, numP b with | some x, some y => some (x, y) | _, _ => none) (spC 44 w)
def mkP (w : Cs) : Option Mk := two (fun a b => match plP a, numP b with | some p, some c => some (p.1, p.2, c) | _, _ => none) (spC 58 w)
def allP {α : Type} (f : Cs → Option α) : List Cs → Option (List α)
  | [] => some []
  | a :: l => match f a, allP f l with
    | some x, some xs => some (x :: xs)
    | _, _ => none
def lastC (w : Cs) : Nat := w.getLastD 0
def hdP (w : Cs) : Bool := !(w == []) && decide (lastC w ∈ hdL)
def hdI (c : Nat) : Int := ((hdL.idxOf c : Nat) : Int)
def wkP (w : Cs) : Option Wk := if hdP w then (plP w.dropLast).map fun p => (p.1, p.2, hdI (lastC w)) else none
def prsP (t : Cs) : Option (Cs × Wk × List Mk) := match spC 32 t with
  | r :: w :: ms => match wkP w, allP mkP ms with
    | some k, some f => some (r, k, f)
    | _, _ => none
  | _ => none
def okRWF (r : Cs) (w : Wk) (f : List Mk) : Bool := ruleOk ⟨r.toArray⟩ && wOk (w3 w) && floorOk r.length f
def rdP (t : Cs) : Option (Cs × Wk × List Mk) := match prsP t with
  | some (r, w, f) => if okRWF r w f && decide (wrL r w f = t) then some (r, w, f) else none
  | none => none
/-! ### splitting and joining -/
theorem pre_one (c x : Nat) (r : Cs) : TL.pre [c] (x :: r) = decide (x = c) := by
  unfold TL.pre
  simp only [List.length_cons, List.length_nil, List.take_succ_cons, List.take_zero]
  by_cases h : x = c
  · subst h; simp
  · simp [h]
theorem spl_ne (c : Nat) : ∀ (t acc : Cs), TL.spl [c] 0 acc t ≠ []
  | [], acc => by rw [TL.spl_nil]; simp
  | x :: r, acc => by
    by_cases h : x = c
    · rw [TL.spl_hit (by rw [pre_one]; exact decide_eq_true h)]; simp
    · rw [TL.spl_miss (by rw [pre_one]; exact decide_eq_false h)]; exact spl_ne c r _
theorem joinL_cons {S a : Cs} {l : List Cs} (h : l ≠ []) : TL.joinL S (a :: l) = a ++ (S ++ TL.joinL S l) := by
  cases l with
  | nil => exact absurd rfl h
  | cons b l => simp [TL.joinL]
theorem join_spl (c : Nat) : ∀ (t acc : Cs), TL.joinL [c] (TL.spl [c] 0 acc t) = acc ++ t
  | [], acc => by rw [TL.spl_nil]; simp [TL.joinL]
  | x :: r, acc => by
    by_cases h : x = c
    · rw [TL.spl_hit (by rw [pre_one]; exact decide_eq_true h)]
      show TL.joinL [c] (acc :: TL.spl [c] 0 [] r) = _
      rw [joinL_cons (spl_ne c r []), join_spl c r [], h]
      simp
    · rw [TL.spl_miss (by rw [pre_one]; exact decide_eq_false h), join_spl c r]
      simp
theorem join_spC (c : Nat) (t : Cs) : TL.joinL [c] (spC c t) = t := by
  unfold spC
  rw [join_spl]
  rfl
theorem spC_join {c : Nat} {ps : List Cs} (h : ps ≠ []) (hf : ∀ p ∈ ps, c ∉ p) : spC c (TL.joinL [c] ps) = ps := TL.spl_join h hf
theorem spC_two {c : Nat} {a b : Cs} (ha : c ∉ a) (hb : c ∉ b) : spC c (a ++ c :: b) = [a, b] := by
  have z := spC_join (c := c) (ps := [a, b]) (by simp) (by simp [ha, hb])
  have e : TL.joinL [c] [a, b] = a ++ c :: b := by simp [TL.joinL]
  rw [e] at z
  exact z
/-! ### numbers -/
def nums : List Int := (List.range 201).map fun k => ((k : Nat) : Int) - 100
theorem nums_mem {k : Int} : k ∈ nums ↔ -100 ≤ k ∧ k ≤ 100 := by
  unfold nums
  rw [List.mem_map]
  constructor
  · rintro ⟨n, hn, rfl⟩
    have := List.mem_range.mp hn
    omega
  · intro h
    exact ⟨(k + 100).toNat, List.mem_range.mpr (by omega), by omega⟩
theorem num_facts : ∀ k ∈ nums, numP (strL k) = some k ∧ (∀ c ∈ strL k, c = 45 ∨ (48 ≤ c ∧ c ≤ 57)) ∧ (strL k).length ≤ 4 ∧ 1 ≤ (strL k).length ∧ Str.ofString (toString k) = ⟨(strL k).toArray⟩ := by decide +kernel
theorem strL_free {k : Int} (h : -100 ≤ k ∧ k ≤ 100) {c : Nat} (hc : c = 32 ∨ c = 44 ∨ c = 58) : c ∉ strL k := fun hm => by
  have := (num_facts k (nums_mem.mpr h)).2.1 c hm
  omega
theorem strL_inj {i j : Int} (hi : -100 ≤ i ∧ i ≤ 100) (hj : -100 ≤ j ∧ j ≤ 100) (e : strL i = strL j) : i = j := by
  have h1 := (num_facts i (nums_mem.mpr hi)).1
  have h2 := (num_facts j (nums_mem.mpr hj)).1
  rw [e, h2] at h1
  exact (Option.some.inj h1).symm
end MW

set_option Elab.async false
set_option linter.all false
set_option maxRecDepth 100000
set_option maxHeartbeats 4000000
namespace MW
open PySem PySem.Spec PyProof.Rows L2
set_option autoImplicit false
/-! ### the law's own reading -/
def numQ (w : Cs) : Option Int := nums.find? fun k => strL k == w
def plQ (w : Cs) : Option Pl := two (fun a b => match numQ a, numQ b with | some x, some y => some (x, y) | _, _ => none) (spC 44 w)
def colL (n : Nat) : List Cs := [[49], [50], [51], [52]].take (n - 1)
def mkQ (n : Nat) (w : Cs) : Option Mk := two (fun a b => match plQ a with | some p => if b ∈ colL n then some (p.1, p.2, ((NumText.digitsVal b : Nat) : Int)) else none | none => none) (spC 58 w)
def riseB (f : List Mk) : Bool := decide ((f.map plOf).Pairwise plt)
def lawR (t : Cs) : Option (Cs × Wk × List Mk) := match spC 32 t with
  | r :: w :: ms => if hdP w then match plQ w.dropLast with
    | some p => if ruleOk ⟨r.toArray⟩ then match allP (mkQ r.length) ms with
      | some f => if riseB f && decide (f.length ≤ 200) then some (r, (p.1, p.2, hdI (lastC w)), f) else none
      | none => none
      else none
    | none => none
    else none
  | _ => none
/-! ### what is written is read -/
theorem numQ_str {k : Int} (h : -100 ≤ k ∧ k ≤ 100) : numQ (strL k) = some k := by
  unfold numQ
  cases e : nums.find? (fun j => strL j == strL k) with
  | none =>
    have := List.find?_eq_none.mp e k (nums_mem.mpr h)
    simp at this
  | some j =>
    have h1 := List.find?_some e
    have h2 := nums_mem.mp (List.mem_of_find?_eq_some e)
    rw [strL_inj h2 h (by simpa using h1)]
theorem numQ_at {w : Cs} {k : Int} (h : numQ w = some k) : w = strL k ∧ (-100 ≤ k ∧ k ≤ 100) := by
  have h1 := List.find?_some h
  exact ⟨by simpa using (Eq.symm (by simpa using h1 : strL k = w)), nums_mem.mp (List.mem_of_find?_eq_some h)⟩
def inF (p : Pl) : Prop := (-100 ≤ p.1 ∧ p.1 ≤ 100) ∧ -100 ≤ p.2 ∧ p.2 ≤ 100
theorem plP_pl {p : Pl} (h : inF p) : plP (plL p) = some p := by
  unfold plP plL
  rw [spC_two (strL_free h.1 (by simp)) (strL_free h.2 (by simp))]
  simp only [two]
  rw [(num_facts _ (nums_mem.mpr h.1)).1, (num_facts _ (nums_mem.mpr h.2)).1]
theorem plQ_pl {p : Pl} (h : inF p) : plQ (plL p) = some p := by
  unfold plQ plL
  rw [spC_two (strL_free h.1 (by simp)) (strL_free h.2 (by simp))]
  simp only [two]
  rw [numQ_str h.1, numQ_str h.2]
theorem two_at {α : Type} {f : Cs → Cs → Option α} {l : List Cs} {x : α} (h : two f l = some x) : ∃ a b, l = [a, b] ∧ f a b = some x := by
  match l, h with
  | [a, b], h => exact ⟨a, b, rfl, h⟩
theorem plQ_at {w : Cs} {p : Pl} (h : plQ w = some p) : w = plL p ∧ inF p := by
  obtain ⟨a, b, e, h⟩ := two_at h
  have j := join_spC 44 w
  rw [e] at j
  have j2 : TL.joinL [44] [a, b] = a ++ 44 :: b := by simp [TL.joinL]
  rw [j2] at j
  cases h1 : numQ a with
  | none => rw [h1] at h; cases h
  | some x =>
    cases h2 : numQ b with
    | none => rw [h1, h2] at h; cases h
    | some y =>
      rw [h1, h2] at h
      cases h
      obtain ⟨rfl, i1⟩ := numQ_at h1
      obtain ⟨rfl, i2⟩ := numQ_at h2
      exact ⟨j.symm, i1, i2⟩
theorem plL_free {p : Pl} (h : inF p) {c : Nat} (hc : c = 32 ∨ c = 58) : c ∉ plL p := fun hm => by
  unfold plL at hm
  rcases List.mem_append.mp hm with h1 | h1
  · exact strL_free h.1 (by omega) h1
  · rcases List.mem_cons.mp h1 with h2 | h2
    · omega
    · exact strL_free h.2 (by omega) h2
theorem col_at {n : Nat} {b : Cs} (h : b ∈ colL n) : b = strL ((NumText.digitsVal b : Nat) : Int) ∧ (1 : Int) ≤ ((NumText.digitsVal b : Nat) : Int) ∧ ((NumText.digitsVal b : Nat) : Int) < n := by
  have key : ∀ m ∈ List.range 5, ∀ b ∈ ([[49], [50], [51], [52]] : List Cs).take m, b = strL ((NumText.digitsVal b : Nat) : Int) ∧ (1 : Int) ≤ ((NumText.digitsVal b : Nat) : Int) ∧ NumText.digitsVal b ≤ m := by decide +kernel
  unfold colL at h
  by_cases c : n - 1 < 5
  · have := key (n - 1) (List.mem_range.mpr c) b h
    exact ⟨this.1, this.2.1, by omega⟩
  · have h' : b ∈ ([[49], [50], [51], [52]] : List Cs).take 4 := by
      rw [List.take_of_length_le (show ([[49], [50], [51], [52]] : List Cs).length ≤ n - 1 by show 4 ≤ _; omega)] at h
      exact h
    have := key 4 (by decide) b h'
    exact ⟨this.1, this.2.1, by omega⟩
theorem col_in {n : Nat} {c : Int} (h1 : 1 ≤ c) (h2 : c < n) (h5 : n ≤ 5) : strL c ∈ colL n ∧ ((NumText.digitsVal (strL c) : Nat) : Int) = c := by
  have key : ∀ n ∈ List.range 6, ∀ c ∈ List.range 5, 1 ≤ c → c < n → strL ((c : Nat) : Int) ∈ colL n ∧ ((NumText.digitsVal (strL ((c : Nat) : Int)) : Nat) : Int) = ((c : Nat) : Int) := by decide +kernel
  obtain ⟨k, rfl⟩ := Int.eq_ofNat_of_zero_le (a := c) (by omega)
  exact key n (List.mem_range.mpr (by omega)) k (List.mem_range.mpr (by omega)) (by omega) (by omega)
theorem mark_at {n : Nat} {m : Mk} (h : markOk n m = true) : inF (plOf m) ∧ 1 ≤ m.2.2 ∧ m.2.2 < (n : Int) := by
  unfold markOk at h
  simp only [Bool.and_eq_true, decide_eq_true_eq] at h
  exact ⟨⟨by show -100 ≤ m.1 ∧ m.1 ≤ 100; omega, by show -100 ≤ m.2.1 ∧ m.2.1 ≤ 100; omega⟩, by omega, by omega⟩
theorem mark_of {n : Nat} {m : Mk} (h : inF (plOf m)) (h1 : 1 ≤ m.2.2) (h2 : m.2.2 < (n : Int)) : markOk n m = true := by
  have a1 : -100 ≤ m.1 ∧ m.1 ≤ 100 := h.1
  have a2 : -100 ≤ m.2.1 ∧ m.2.1 ≤ 100 := h.2
  unfold markOk
  simp only [Bool.and_eq_true, decide_eq_true_eq]
  omega
theorem mkP_mk {n : Nat} {m : Mk} (h5 : n ≤ 5) (h : markOk n m = true) : mkP (mkL m) = some m := by
  obtain ⟨h1, h2, h3⟩ := mark_at h
  unfold mkP mkL
  rw [spC_two (plL_free h1 (by simp)) (strL_free (by omega) (by simp))]
  simp only [two]
  rw [plP_pl h1, (num_facts _ (nums_mem.mpr (by omega))).1]
  rfl
theorem mkQ_mk {n : Nat} {m : Mk} (h5 : n ≤ 5) (h : markOk n m = true) : mkQ n (mkL m) = some m := by
  obtain ⟨h1, h2, h3⟩ := mark_at h
  obtain ⟨c1, c2⟩ := col_in h2 h3 h5
  unfold mkQ mkL
  rw [spC_two (plL_free h1 (by simp)) (strL_free (by omega) (by simp))]
  simp only [two]
  rw [plQ_pl h1]
  simp only
  rw [if_pos c1, c2]
  rfl
theorem mkQ_at {n : Nat} {w : Cs} {m : Mk} (h : mkQ n w = some m) : w = mkL m ∧ markOk n m = true := by
  obtain ⟨a, b, e, h⟩ := two_at h
  have j := join_spC 58 w
  rw [e] at j
  have j2 : TL.joinL [58] [a, b] = a ++ 58 :: b := by simp [TL.joinL]
  rw [j2] at j
  cases h1 : plQ a with
  | none => rw [h1] at h; cases h
  | some p =>
    rw [h1] at h
    simp only at h
    by_cases c : b ∈ colL n
    · rw [if_pos c] at h
      cases h
      obtain ⟨ea, ip⟩ := plQ_at h1
      obtain ⟨eb, c1, c2⟩ := col_at c
      refine ⟨?_, mark_of (m := (p.1, p.2, _)) ip c1 c2⟩
      rw [← j, ea]
      unfold mkL
      show _ = plL p ++ 58 :: strL _
      rw [← eb]
    · rw [if_neg c] at h
      cases h
theorem allP_map {α : Type} {f : Cs → Option α} {g : α → Cs} : ∀ {l : List α}, (∀ x ∈ l, f (g x) = some x) → allP f (l.map g) = some l
  | [], _ => rfl
  | x :: l, h => by
    simp only [List.map_cons, allP]
    rw [h x (by simp), allP_map fun y hy => h y (by simp [hy])]
theorem allP_at {α : Type} {f : Cs → Option α} {g : α → Cs} {q : α → Prop} (h : ∀ w x, f w = some x → w = g x ∧ q x) : ∀ {ws : List Cs} {l : List α}, allP f ws = some l → ws = l.map g ∧ ∀ x ∈ l, q x
  | [], l, e => by
    cases e
    exact ⟨rfl, fun _ z => nomatch z⟩
  | w :: ws, l, e => by
    simp only [allP] at e
    cases h1 : f w with
    | none => rw [h1] at e; cases e
    | some x =>
      cases h2 : allP f ws with
      | none => rw [h1, h2] at e; cases e
      | some xs =>
        rw [h1, h2] at e
        cases e
        obtain ⟨e1, q1⟩ := h w x h1
        obtain ⟨e2, q2⟩ := allP_at h h2
        refine ⟨by rw [e1, e2]; rfl, fun y hy => ?_⟩
        rcases List.mem_cons.mp hy with rfl | hy
        · exact q1
        · exact q2 y hy
theorem hd_facts : ∀ h ∈ List.range 4, hdC ((h : Nat) : Int) ∈ hdL ∧ hdI (hdC ((h : Nat) : Int)) = ((h : Nat) : Int) ∧ hdC ((h : Nat) : Int) ≠ 32 := by decide +kernel
theorem hdI_at : ∀ c ∈ hdL, (0 ≤ hdI c ∧ hdI c < 4) ∧ hdC (hdI c) = c := by decide +kernel
theorem hdC_at {h : Int} (h0 : 0 ≤ h) (h4 : h < 4) : hdC h ∈ hdL ∧ hdI (hdC h) = h ∧ hdC h ≠ 32 := by
  obtain ⟨k, rfl⟩ := Int.eq_ofNat_of_zero_le h0
  exact hd_facts k (List.mem_range.mpr (by omega))
theorem lastC_app (a : Cs) (c : Nat) : lastC (a ++ [c]) = c := by
  unfold lastC
  rw [List.getLastD_eq_getLast?, List.getLast?_append]
  rfl
theorem okRWF_at {r : Cs} {w : Wk} {f : List Mk} (h : okRWF r w f = true) : ruleOk ⟨r.toArray⟩ = true ∧ wOk (w3 w) = true ∧ floorOk r.length f = true := by
  unfold okRWF at h
  simp only [Bool.and_eq_true] at h
  exact ⟨h.1.1, h.1.2, h.2⟩
theorem rule_free {r : Cs} (h : ruleOk ⟨r.toArray⟩ = true) : 32 ∉ r ∧ r.length ≤ 5 := by
  have l := ruleOk_len h
  have e : (⟨r.toArray⟩ : Str).length = r.length := by simp [Str.length]
  refine ⟨fun hm => ?_, by omega⟩
  unfold ruleOk at h
  simp only [Bool.and_eq_true] at h
  have z := List.all_eq_true.mp h.2 32 hm
  revert z
  decide
theorem w_at {w : Wk} (h : wOk (w3 w) = true) : inF (plW w) ∧ 0 ≤ w.2.2 ∧ w.2.2 < 4 := by
  obtain ⟨wk, e, h1, h2, h3⟩ := wOk_at h
  cases w3_inj e
  exact ⟨⟨h1, h2⟩, h3⟩
theorem words_wr {r : Cs} {w : Wk} {f : List Mk} (h : okRWF r w f = true) : spC 32 (wrL r w f) = r :: wkL w :: f.map mkL := by
  obtain ⟨h1, h2, h3⟩ := okRWF_at h
  obtain ⟨r1, r2⟩ := rule_free h1
  obtain ⟨w1, w2, w3⟩ := w_at h2
  refine spC_join (by simp) fun p hp => ?_
  rcases List.mem_cons.mp hp with rfl | hp
  · exact r1
  rcases List.mem_cons.mp hp with rfl | hp
  · intro hm
    unfold wkL at hm
    rcases List.mem_append.mp hm with hm | hm
    · exact plL_free w1 (by simp) hm
    · exact (hdC_at w2 w3).2.2 (List.mem_singleton.mp hm).symm
  · obtain ⟨m, hm, rfl⟩ := List.mem_map.mp hp
    obtain ⟨m1, m2, m3⟩ := mark_at ((floorOk_at h3).2.1 m hm)
    intro hc
    unfold mkL at hc
    rcases List.mem_append.mp hc with hc | hc
    · exact plL_free m1 (by simp) hc
    · rcases List.mem_cons.mp hc with hc | hc
      · omega
      · exact strL_free (by omega) (by simp) hc
theorem wk_facts {w : Wk} (h : wOk (w3 w) = true) : hdP (wkL w) = true ∧ (wkL w).dropLast = plL (plW w) ∧ hdI (lastC (wkL w)) = w.2.2 := by
  obtain ⟨w1, w2, w3⟩ := w_at h
  have hc := hdC_at w2 w3
  unfold wkL hdP
  refine ⟨?_, List.dropLast_concat, ?_⟩
  · rw [lastC_app, decide_eq_true hc.1]
    cases h : plL (plW w) <;> rfl
  · rw [lastC_app]
    exact hc.2.1
theorem prsP_wr {r : Cs} {w : Wk} {f : List Mk} (h : okRWF r w f = true) : prsP (wrL r w f) = some (r, w, f) := by
  obtain ⟨h1, h2, h3⟩ := okRWF_at h
  obtain ⟨k1, k2, k3⟩ := wk_facts h2
  unfold prsP
  rw [words_wr h]
  simp only
  have e1 : wkP (wkL w) = some w := by
    unfold wkP
    rw [if_pos k1, k2, k3, plP_pl (w_at h2).1]
    rfl
  rw [e1, allP_map fun m hm => mkP_mk (rule_free h1).2 ((floorOk_at h3).2.1 m hm)]
theorem lawR_wr {r : Cs} {w : Wk} {f : List Mk} (h : okRWF r w f = true) : lawR (wrL r w f) = some (r, w, f) := by
  obtain ⟨h1, h2, h3⟩ := okRWF_at h
  obtain ⟨k1, k2, k3⟩ := wk_facts h2
  obtain ⟨f1, f2, f3⟩ := floorOk_at h3
  unfold lawR
  rw [words_wr h]
  simp only
  rw [if_pos k1, k2, plQ_pl (w_at h2).1]
  simp only
  rw [if_pos h1, allP_map fun m hm => mkQ_mk (rule_free h1).2 (f2 m hm)]
  simp only
  rw [if_pos (by unfold riseB; rw [decide_eq_true f3, decide_eq_true f1]; rfl), k3]
  rfl
theorem lawR_at {t r : Cs} {w : Wk} {f : List Mk} (h : lawR t = some (r, w, f)) : okRWF r w f = true ∧ wrL r w f = t := by
  have j := join_spC 32 t
  unfold lawR at h
  match hs : spC 32 t, h with
  | r' :: w' :: ms, h =>
    simp only at h
    by_cases c1 : hdP w' = true
    · rw [if_pos c1] at h
      cases h1 : plQ w'.dropLast with
      | none => rw [h1] at h; cases h
      | some p =>
        rw [h1] at h
        simp only at h
        by_cases c2 : ruleOk ⟨r'.toArray⟩ = true
        · rw [if_pos c2] at h
          cases h2 : allP (mkQ r'.length) ms with
          | none => rw [h2] at h; cases h
          | some f' =>
            rw [h2] at h
            simp only at h
            by_cases c3 : (riseB f' && decide (f'.length ≤ 200)) = true
            · rw [if_pos c3] at h
              cases h
              obtain ⟨ep, ip⟩ := plQ_at h1
              obtain ⟨em, gm⟩ := allP_at (g := mkL) (q := fun m => markOk r.length m = true) (fun w x e => mkQ_at e) h2
              rw [Bool.and_eq_true] at c3
              unfold hdP at c1
              rw [Bool.and_eq_true] at c1
              have hl := hdI_at _ (of_decide_eq_true c1.2)
              have ne : w' ≠ [] := fun e => by
                rw [e] at c1
                exact absurd c1.1 (by decide)
              have ew : w' = wkL (p.1, p.2, hdI (lastC w')) := by
                unfold wkL
                show w' = plL p ++ [hdC (hdI (lastC w'))]
                rw [hl.2, ← ep]
                unfold lastC
                rw [List.getLastD_eq_getLast?, List.getLast?_eq_some_getLast ne]
                exact (List.dropLast_concat_getLast ne).symm
              refine ⟨?_, ?_⟩
              · unfold okRWF
                rw [c2, w3_ok (wk := (p.1, p.2, hdI (lastC w'))) ip.1 ip.2 hl.1, floorOk_of (of_decide_eq_true c3.2) gm (of_decide_eq_true c3.1)]
                rfl
              · unfold wrL
                rw [← ew, ← em, ← hs]
                exact j
            · rw [if_neg c3] at h
              cases h
        · rw [if_neg c2] at h
          cases h
    · rw [if_neg c1] at h
      cases h
/-- the program's reading is the law's -/
theorem rd_law (t : Cs) : rdP t = lawR t := by
  unfold rdP
  cases hl : lawR t with
  | some x =>
    obtain ⟨r, w, f⟩ := x
    obtain ⟨h1, h2⟩ := lawR_at hl
    rw [← h2, prsP_wr h1]
    simp only
    rw [if_pos (by rw [h1]; simp)]
  | none =>
    cases hp : prsP t with
    | none => rfl
    | some x =>
      obtain ⟨r, w, f⟩ := x
      simp only
      by_cases c : (okRWF r w f && decide (wrL r w f = t)) = true
      · rw [Bool.and_eq_true] at c
        have e := lawR_wr c.1
        rw [of_decide_eq_true c.2, hl] at e
        cases e
      · rw [if_neg c]
end MW

set_option Elab.async false
set_option linter.all false
set_option maxRecDepth 100000
set_option maxHeartbeats 4000000
namespace MW
open PySem PySem.Spec PyProof.Rows L2
set_option autoImplicit false
/-! ### words read -/
structure Rs where
  now : Dd Int
  fst : Dd Int
  wk : Wk
  sp : List Pl
def rs0 (wk : Wk) : Rs := ⟨[], [], wk, []⟩
def rdH (r : Str) (wk : Wk) (c : Int) : Int := (wk.2.2 + turnOf (signAt r c)) % 4
def rdW (r : Str) (wk : Wk) (c : Int) : Wk := (wk.1 + (ahead (rdH r wk c)).1, wk.2.1 + (ahead (rdH r wk c)).2, rdH r wk c)
def rdS (r : Str) (s : Rs) (c : Int) : Rs := ⟨dput s.now (plW s.wk) ((c + 1) % (r.length : Int)), dput s.fst (plW s.wk) ((dget s.fst (plW s.wk)).getD c), rdW r s.wk c, s.sp ++ [plW s.wk]⟩
def rd1 (r : Str) (s : Rs) (c : Int) : Option Rs := if (dget s.now (plW s.wk)).getD c = c then some (rdS r s c) else none
def rdL (r : Str) : Rs → List Int → Option Rs
  | s, [] => some s
  | s, c :: cs => match rd1 r s c with
    | none => none
    | some s' => rdL r s' cs
theorem rdL_app (r : Str) : ∀ (cs : List Int) (s : Rs) (ds : List Int), rdL r s (cs ++ ds) = (match rdL r s cs with
    | none => none
    | some s' => rdL r s' ds)
  | [], _, _ => rfl
  | c :: cs, s, ds => by
    show (match rd1 r s c with
      | none => none
      | some s' => rdL r s' (cs ++ ds)) = _
    show _ = match (match rd1 r s c with
      | none => none
      | some s' => rdL r s' cs) with
      | none => none
      | some s' => rdL r s' ds
    cases rd1 r s c with
    | none => rfl
    | some s' => exact rdL_app r cs s' ds
theorem rdL_one (r : Str) (s : Rs) (c : Int) : rdL r s [c] = rd1 r s c := by
  show (match rd1 r s c with
    | none => none
    | some s' => rdL r s' []) = _
  cases rd1 r s c <;> rfl
structure Rok (r : Str) (s : Rs) (n : Nat) : Prop where
  nk1 : Nk s.now
  nk2 : Nk s.fst
  cl1 : Cl r s.now
  cl2 : Cl r s.fst
  l1 : s.now.length ≤ n
  l2 : s.fst.length ≤ n
  ls : s.sp.length = n
  hd : 0 ≤ s.wk.2.2 ∧ s.wk.2.2 < 4
  ky : ∀ p, dget s.now p = none ↔ dget s.fst p = none
theorem rok0 {r : Str} {wk : Wk} (h : 0 ≤ wk.2.2 ∧ wk.2.2 < 4) : Rok r (rs0 wk) 0 := ⟨List.nodup_nil, List.nodup_nil, (fun q hq => nomatch hq), (fun q hq => nomatch hq), Nat.le_refl _, Nat.le_refl _, rfl, h, fun p => Iff.rfl⟩
theorem rdS_ok {r : Str} {s : Rs} {n : Nat} {c : Int} (hr : 2 ≤ r.length) (h : Rok r s n) (h0 : 0 ≤ c) (h1 : c < (r.length : Int)) : Rok r (rdS r s c) (n + 1) := by
  have a := dput_len s.now (plW s.wk) ((c + 1) % (r.length : Int))
  have b := dput_len s.fst (plW s.wk) ((dget s.fst (plW s.wk)).getD c)
  have := h.l1
  have := h.l2
  have := h.ls
  refine ⟨h.nk1.put _ _, h.nk2.put _ _, dput_all h.cl1 ⟨Int.emod_nonneg _ (by omega), Int.emod_lt_of_pos _ (by omega)⟩, dput_all h.cl2 ?_, by show (dput _ _ _).length ≤ _; omega, by show (dput _ _ _).length ≤ _; omega, by show (s.sp ++ [_]).length = _; rw [List.length_append, h.ls]; rfl, ⟨Int.emod_nonneg _ (by decide), Int.emod_lt_of_pos _ (by decide)⟩, fun p => ?_⟩
  · show 0 ≤ (dget s.fst (plW s.wk)).getD c ∧ (dget s.fst (plW s.wk)).getD c < _
    cases e : dget s.fst (plW s.wk) with
    | none => exact ⟨h0, h1⟩
    | some x =>
      have z := h.cl2.at hr (plW s.wk)
      unfold at0 at z
      rw [e] at z
      exact z
  · show dget (dput _ _ _) p = none ↔ dget (dput _ _ _) p = none
    rw [dget_put, dget_put]
    by_cases q : p = plW s.wk
    · rw [if_pos q, if_pos q]; simp
    · rw [if_neg q, if_neg q]; exact h.ky p
theorem rd1_some {r : Str} {s s' : Rs} {c : Int} (h : rd1 r s c = some s') : (dget s.now (plW s.wk)).getD c = c ∧ s' = rdS r s c := by
  unfold rd1 at h
  split at h
  · rename_i e
    cases h
    exact ⟨e, rfl⟩
  · cases h
theorem rdL_ok {r : Str} (hr : 2 ≤ r.length) : ∀ {cs : List Int} {s s' : Rs} {n : Nat}, Rok r s n → (∀ c ∈ cs, 0 ≤ c ∧ c < (r.length : Int)) → rdL r s cs = some s' → Rok r s' (n + cs.length)
  | [], s, s', n, h, _, e => by cases e; exact h
  | c :: cs, s, s', n, h, hc, e => by
    have e : (match rd1 r s c with
      | none => none
      | some s1 => rdL r s1 cs) = some s' := e
    cases e1 : rd1 r s c with
    | none => rw [e1] at e; cases e
    | some s1 =>
      rw [e1] at e
      obtain ⟨_, rfl⟩ := rd1_some e1
      have hc0 := hc c (by simp)
      have z := rdL_ok hr (rdS_ok hr h hc0.1 hc0.2) (fun x hx => hc x (by simp [hx])) e
      rw [show n + (c :: cs).length = n + 1 + cs.length by rw [List.length_cons]; omega]
      exact z
/-- what is read first stays -/
theorem rdL_ext {r : Str} : ∀ {cs : List Int} {s s' : Rs}, rdL r s cs = some s' → ∀ p x, dget s.fst p = some x → dget s'.fst p = some x
  | [], s, s', e, p, x, h => by cases e; exact h
  | c :: cs, s, s', e, p, x, h => by
    have e : (match rd1 r s c with
      | none => none
      | some s1 => rdL r s1 cs) = some s' := e
    cases e1 : rd1 r s c with
    | none => rw [e1] at e; cases e
    | some s1 =>
      rw [e1] at e
      obtain ⟨_, rfl⟩ := rd1_some e1
      refine rdL_ext e p x ?_
      show dget (dput _ _ _) p = _
      rw [dget_put]
      by_cases q : p = plW s.wk
      · rw [if_pos q, ← q, h]; rfl
      · rw [if_neg q]; exact h
theorem goSs_cons (r : Str) (s : Dd Int × Wk) (n : Nat) : goSs r s (n + 1) = at0 s.1 (plW s.2) :: goSs r (goD r s.1 s.2, goW r s.1 s.2) n := by
  unfold goSs
  rw [List.range_succ_eq_map, List.map_cons, List.map_map]
  congr 1
  refine List.map_congr_left fun k _ => ?_
  show at0 (itG r s (k + 1)).1 _ = _
  rw [itG_shift]
def goPs (r : Str) (s : Dd Int × Wk) (n : Nat) : List Pl := (List.range n).map fun k => plW (itG r s k).2
theorem goPs_cons (r : Str) (s : Dd Int × Wk) (n : Nat) : goPs r s (n + 1) = plW s.2 :: goPs r (goD r s.1 s.2, goW r s.1 s.2) n := by
  unfold goPs
  rw [List.range_succ_eq_map, List.map_cons, List.map_map]
  congr 1
  refine List.map_congr_left fun k _ => ?_
  show plW (itG r s (k + 1)).2 = _
  rw [itG_shift]
theorem goPs_is (r : Str) (s : Dd Int × Wk) (n : Nat) : (goWs r s n).dropLast.map plW = goPs r s n := by
  unfold goWs goPs
  rw [List.range_succ, List.map_append, List.map_singleton, List.dropLast_concat, List.map_map]
  rfl
/-- what the floor has where so much is known -/
def Rel (F : Dd Int) (s : Rs) (D : Dd Int) : Prop := ∀ p, at0 D p = (dget s.now p).getD (at0 F p)
theorem rel_step {r : Str} {F D : Dd Int} {s : Rs} {c : Int} (h : Rel F s D) (e : at0 D (plW s.wk) = c) : Rel F (rdS r s c) (goD r D s.wk) ∧ goW r D s.wk = (rdS r s c).wk := by
  constructor
  · intro p
    show at0 (dput D (plW s.wk) ((at0 D (plW s.wk) + 1) % (r.length : Int))) p = (dget (dput s.now (plW s.wk) ((c + 1) % (r.length : Int))) p).getD _
    rw [at0_put, dget_put, e]
    by_cases q : p = plW s.wk
    · rw [if_pos q, if_pos q]; rfl
    · rw [if_neg q, if_neg q]; exact h p
  · have eH : goH r D s.wk = rdH r s.wk c := by
      show (s.wk.2.2 + turnOf (signAt r (at0 D (plW s.wk)))) % 4 = _
      rw [e]
      rfl
    unfold goW
    rw [eH]
    rfl
/-- on the floor of what is read first the word is read -/
theorem rd_run {r : Str} (hr : 2 ≤ r.length) {F : Dd Int} : ∀ {cs : List Int} {s s' : Rs} {D : Dd Int} {n : Nat}, Rok r s n → (∀ c ∈ cs, 0 ≤ c ∧ c < (r.length : Int)) → rdL r s cs = some s' → (∀ p x, dget s'.fst p = some x → dget F p = some x) → Rel F s D →
    goSs r (D, s.wk) cs.length = cs ∧ s'.sp = s.sp ++ goPs r (D, s.wk) cs.length
  | [], s, s', D, n, ok, hc, e, hF, hR => by
    cases e
    exact ⟨rfl, (List.append_nil _).symm⟩
  | c :: cs, s, s', D, n, ok, hc, e, hF, hR => by
    have e : (match rd1 r s c with
      | none => none
      | some s1 => rdL r s1 cs) = some s' := e
    cases e1 : rd1 r s c with
    | none => rw [e1] at e; cases e
    | some s1 =>
      rw [e1] at e
      obtain ⟨e2, rfl⟩ := rd1_some e1
      have hc0 := hc c (by simp)
      have rd : at0 D (plW s.wk) = c := by
        rw [hR]
        cases q : dget s.now (plW s.wk) with
        | some x => rw [q] at e2; exact e2
        | none =>
          show at0 F (plW s.wk) = c
          have q2 := (ok.ky _).mp q
          have q3 : dget (rdS r s c).fst (plW s.wk) = some c := by
            show dget (dput _ _ _) _ = _
            rw [dget_put, if_pos rfl, q2]
            rfl
          have q4 := hF _ _ (rdL_ext e _ _ q3)
          unfold at0
          rw [q4]
          rfl
      obtain ⟨R1, w1⟩ := rel_step (r := r) hR rd
      obtain ⟨i1, i2⟩ := rd_run hr (rdS_ok hr ok hc0.1 hc0.2) (fun x hx => hc x (by simp [hx])) e hF R1
      rw [List.length_cons, goSs_cons, goPs_cons]
      show at0 D (plW s.wk) :: goSs r (goD r D s.wk, goW r D s.wk) cs.length = _ ∧ s'.sp = s.sp ++ plW s.wk :: goPs r (goD r D s.wk, goW r D s.wk) cs.length
      rw [w1, rd, i1, i2]
      refine ⟨rfl, ?_⟩
      show (s.sp ++ [plW s.wk]) ++ _ = _
      rw [List.append_assoc]
      rfl
/-- a place that is not known yet and is read otherwise at first -/
theorem rd_lack {r : Str} (hr : 2 ≤ r.length) {F : Dd Int} {p0 : Pl} : ∀ {cs : List Int} {s s' : Rs} {D : Dd Int} {n : Nat}, Rok r s n → (∀ c ∈ cs, 0 ≤ c ∧ c < (r.length : Int)) → rdL r s cs = some s' → dget s.fst p0 = none → (∃ x, dget s'.fst p0 = some x ∧ x ≠ at0 F p0) → Rel F s D → goSs r (D, s.wk) cs.length ≠ cs
  | [], s, s', D, n, ok, hc, e, h0, ⟨x, hx, _⟩, hR => by
    cases e
    rw [h0] at hx
    cases hx
  | c :: cs, s, s', D, n, ok, hc, e, h0, ⟨x, hx, nx⟩, hR => by
    intro z
    have e : (match rd1 r s c with
      | none => none
      | some s1 => rdL r s1 cs) = some s' := e
    cases e1 : rd1 r s c with
    | none => rw [e1] at e; cases e
    | some s1 =>
      rw [e1] at e
      obtain ⟨e2, rfl⟩ := rd1_some e1
      have hc0 := hc c (by simp)
      rw [List.length_cons, goSs_cons] at z
      have z : at0 D (plW s.wk) :: goSs r (goD r D s.wk, goW r D s.wk) cs.length = c :: cs := z
      obtain ⟨rd, z2⟩ := List.cons.inj z
      obtain ⟨R1, w1⟩ := rel_step (r := r) hR rd
      rw [w1] at z2
      have f1 : ∀ p, dget (rdS r s c).fst p = if p = plW s.wk then some ((dget s.fst (plW s.wk)).getD c) else dget s.fst p := fun p => dget_put
      by_cases q : p0 = plW s.wk
      · have g1 : dget (rdS r s c).fst p0 = some c := by rw [f1, if_pos q, ← q, h0]; rfl
        have g2 := rdL_ext e _ _ g1
        rw [hx] at g2
        cases g2
        have g3 := hR p0
        rw [(ok.ky p0).mpr h0, q, rd] at g3
        exact nx (by rw [q]; exact g3)
      · refine rd_lack hr (rdS_ok hr ok hc0.1 hc0.2) (fun x hx => hc x (by simp [hx])) e ?_ ⟨x, hx, nx⟩ R1 z2
        rw [f1, if_neg q]
        exact h0
/-! ### moved -/
def mvP (k : Nat) (v : Pl) (p : Pl) : Pl := ((tP k p).1 + v.1, (tP k p).2 + v.2)
theorem mvP_inj {k : Nat} {v p q : Pl} (h : mvP k v p = mvP k v q) : p = q := by
  have a := congrArg Prod.fst h
  have b := congrArg Prod.snd h
  unfold mvP at a b
  simp only at a b
  exact tP_inj (k := k) (Prod.ext (by omega) (by omega))
structure MovS (k : Nat) (v : Pl) (s s' : Rs) : Prop where
  wk : s'.wk = ((mvP k v (plW s.wk)).1, (mvP k v (plW s.wk)).2, (s.wk.2.2 + (k : Nat)) % 4)
  now : ∀ p, dget s'.now (mvP k v p) = dget s.now p
theorem mov_step {r : Str} {k : Nat} {v : Pl} {s s' : Rs} {c : Int} (h : MovS k v s s') : MovS k v (rdS r s c) (rdS r s' c) := by
  have pl : plW s'.wk = mvP k v (plW s.wk) := by rw [h.wk]; rfl
  have eH : rdH r s'.wk c = (rdH r s.wk c + (k : Nat)) % 4 := by
    unfold rdH
    rw [h.wk]
    show ((s.wk.2.2 + (k : Nat)) % 4 + _) % 4 = _
    omega
  have g0 : 0 ≤ rdH r s.wk c := Int.emod_nonneg _ (by decide)
  have g4 : rdH r s.wk c < 4 := Int.emod_lt_of_pos _ (by decide)
  have eA := ahead_turn k g0 g4
  refine ⟨?_, fun p => ?_⟩
  · show rdW r s'.wk c = _
    unfold rdW
    rw [eH, eA]
    have z := tP_lin k (plW s.wk) (ahead (rdH r s.wk c))
    have a1 : s'.wk.1 = (mvP k v (plW s.wk)).1 := by rw [← pl]; rfl
    have a2 : s'.wk.2.1 = (mvP k v (plW s.wk)).2 := by rw [← pl]; rfl
    rw [a1, a2]
    have z1 : (tP k (plW s.wk)).1 + (tP k (ahead (rdH r s.wk c))).1 = (tP k (plW (rdW r s.wk c))).1 := (congrArg Prod.fst z).symm
    have z2 : (tP k (plW s.wk)).2 + (tP k (ahead (rdH r s.wk c))).2 = (tP k (plW (rdW r s.wk c))).2 := (congrArg Prod.snd z).symm
    refine Prod.ext ?_ (Prod.ext ?_ rfl)
    · show (tP k (plW s.wk)).1 + v.1 + _ = (tP k (plW (rdW r s.wk c))).1 + v.1
      omega
    · show (tP k (plW s.wk)).2 + v.2 + _ = (tP k (plW (rdW r s.wk c))).2 + v.2
      omega
  · show dget (dput s'.now (plW s'.wk) _) (mvP k v p) = dget (dput s.now (plW s.wk) _) p
    rw [dget_put, dget_put, pl]
    by_cases q : p = plW s.wk
    · rw [if_pos q, if_pos (by rw [q])]
    · rw [if_neg q, if_neg (fun z => q (mvP_inj z))]; exact h.now p
theorem mov_read {r : Str} {k : Nat} {v : Pl} : ∀ {cs : List Int} {s s' : Rs}, MovS k v s s' → (rdL r s' cs).isSome = (rdL r s cs).isSome
  | [], _, _, _ => rfl
  | c :: cs, s, s', h => by
    have pl : plW s'.wk = mvP k v (plW s.wk) := by rw [h.wk]; rfl
    show (match rd1 r s' c with
      | none => none
      | some s1 => rdL r s1 cs).isSome = (match rd1 r s c with
      | none => none
      | some s1 => rdL r s1 cs).isSome
    unfold rd1
    rw [pl, h.now]
    by_cases q : (dget s.now (plW s.wk)).getD c = c
    · rw [if_pos q, if_pos q]
      exact mov_read (mov_step h)
    · rw [if_neg q, if_neg q]
def canR (r : Str) (wk : Wk) (cs : List Int) : Bool := (rdL r (rs0 wk) cs).isSome
theorem can_mov (r : Str) (cs : List Int) : canR r (5, -7, 2) cs = canR r (0, 0, 0) cs := mov_read (k := 2) (v := (5, -7)) ⟨rfl, fun _ => rfl⟩
/-! ### all words -/
def colsR (r : Str) : List Int := (List.range r.length).map fun k => ((k : Nat) : Int)
def wordsR (r : Str) : Nat → List (List Int)
  | 0 => [[]]
  | n + 1 => (wordsR r n).flatMap fun w => ((colsR r).map fun c => w ++ [c]).filter fun w => canR r (0, 0, 0) w
theorem wordsR_ok {r : Str} : ∀ {n : Nat} {w : List Int}, w ∈ wordsR r n → w.length = n ∧ ∀ c ∈ w, 0 ≤ c ∧ c < (r.length : Int)
  | 0, w, h => by
    have : w = [] := by simpa [wordsR] using h
    subst this
    exact ⟨rfl, fun c hc => nomatch hc⟩
  | n + 1, w, h => by
    obtain ⟨u, hu, h⟩ := List.mem_flatMap.mp h
    obtain ⟨h, _⟩ := List.mem_filter.mp h
    obtain ⟨c, hc, rfl⟩ := List.mem_map.mp h
    obtain ⟨h1, h2⟩ := wordsR_ok hu
    unfold colsR at hc
    obtain ⟨k, hk, rfl⟩ := List.mem_map.mp hc
    have := List.mem_range.mp hk
    refine ⟨by rw [List.length_append, h1]; rfl, fun x hx => ?_⟩
    rcases List.mem_append.mp hx with hx | hx
    · exact h2 x hx
    · rw [List.mem_singleton.mp hx]; omega
theorem colsR_len (r : Str) : (colsR r).length = r.length := by unfold colsR; simp
theorem flat_len {r : Str} (h5 : r.length ≤ 5) (l : List (List Int)) : (l.flatMap fun w => (colsR r).map fun c => w ++ [c]).length ≤ 5 * l.length := by
  induction l with
  | nil => exact Nat.le_refl _
  | cons x l ih =>
    rw [List.flatMap_cons, List.length_append, List.length_map, colsR_len, List.length_cons]
    omega
theorem words_flat (r : Str) (l : List (List Int)) : (l.flatMap fun w => ((colsR r).map fun c => w ++ [c]).filter fun w => canR r (0, 0, 0) w) = (l.flatMap fun w => (colsR r).map fun c => w ++ [c]).filter fun w => canR r (0, 0, 0) w := by
  rw [List.filter_flatMap]
theorem wordsR_len {r : Str} (h5 : r.length ≤ 5) : ∀ n, (wordsR r n).length ≤ 5 ^ n
  | 0 => by show 1 ≤ 1; omega
  | n + 1 => by
    have ih := wordsR_len h5 n
    have z := flat_len h5 (wordsR r n)
    have e : (wordsR r (n + 1)).length ≤ ((wordsR r n).flatMap fun w => (colsR r).map fun c => w ++ [c]).length := by
      show ((wordsR r n).flatMap _).length ≤ _
      rw [words_flat]
      exact List.length_filter_le _ _
    rw [Nat.pow_succ]
    omega
end MW

set_option Elab.async false
set_option linter.all false
set_option maxRecDepth 100000
set_option maxHeartbeats 4000000
namespace MW
open PySem PySem.Spec PyProof.Rows L2
set_option autoImplicit false
/-! ### words as texts -/
def dig (c : Int) : Nat := 48 + c.toNat
def wd (cs : List Int) : Str := ⟨(cs.map dig).toArray⟩
abbrev Cols (r : Str) (cs : List Int) : Prop := ∀ c ∈ cs, 0 ≤ c ∧ c < (r.length : Int)
theorem wd_tl (cs : List Int) : (wd cs).cps.toList = cs.map dig := by unfold wd; simp
theorem wd_len (cs : List Int) : (wd cs).length = cs.length := by
  rw [TL.len_tl]
  show (wd cs).cps.toList.length = _
  rw [wd_tl, List.length_map]
theorem wd_app (cs ds : List Int) : wd cs ++ wd ds = wd (cs ++ ds) := TL.ext_tl (by
  rw [TL.tl_append]
  show (wd cs).cps.toList ++ (wd ds).cps.toList = (wd (cs ++ ds)).cps.toList
  rw [wd_tl, wd_tl, wd_tl, List.map_append])
theorem wd_join {cs : List Int} (h : ∀ c ∈ cs, 0 ≤ c ∧ c < 5) : Txt.join "" (cs.map strI) = wd cs := join_digits h
theorem wd_signs (cs : List Int) : signsD (wd cs) = cs.map fun c => .str ⟨#[dig c]⟩ := by
  unfold signsD
  rw [wd_tl, List.map_map]
  rfl
theorem wd_one (c : Int) : wd [c] = ⟨#[dig c]⟩ := rfl
theorem wd_inj {cs ds : List Int} (h1 : ∀ c ∈ cs, 0 ≤ c) (h2 : ∀ c ∈ ds, 0 ≤ c) (h : wd cs = wd ds) : cs = ds := by
  have e : cs.map dig = ds.map dig := by rw [← wd_tl, ← wd_tl, h]
  induction cs generalizing ds with
  | nil => cases ds with
    | nil => rfl
    | cons d ds => cases e
  | cons c cs ih => cases ds with
    | nil => cases e
    | cons d ds =>
      obtain ⟨a, b⟩ := List.cons.inj e
      have p := h1 c (by simp)
      have q := h2 d (by simp)
      unfold dig at a
      have : c = d := by omega
      subst this
      rw [ih (fun x hx => h1 x (by simp [hx])) (fun x hx => h2 x (by simp [hx])) (by unfold wd; rw [b]) b]
theorem dig_int {c : Int} (h : 0 ≤ c ∧ c < 5) : PySem.intText? ⟨#[dig c]⟩ = some c := by
  have : c = 0 ∨ c = 1 ∨ c = 2 ∨ c = 3 ∨ c = 4 := by omega
  rcases this with rfl | rfl | rfl | rfl | rfl <;> decide +kernel
theorem canLay_wd {cs : List Int} (h : ∀ c ∈ cs, 0 ≤ c ∧ c < 5) : PyData.canLay0 (.str (wd cs)) = true := by
  rw [← wd_join h]
  exact canLay_digits h
theorem shp_wd {cs : List Int} (h : ∀ c ∈ cs, 0 ≤ c ∧ c < 5) : Shp 0 (.str (wd cs)) := shp_str (canLay_wd h)
theorem cols5 {r : Str} (h5 : r.length ≤ 5) {cs : List Int} (h : Cols r cs) : ∀ c ∈ cs, 0 ≤ c ∧ c < 5 := fun c hc => by
  have := h c hc
  omega
theorem signs01 : ("01234" : Str) = wd [0, 1, 2, 3, 4] := by decide +kernel
theorem cut01 {r : Str} (h5 : r.length ≤ 5) : cutS "01234" none (some ((r.length : Nat) : Int)) = wd (colsR r) := TL.ext_tl (by
  show (cutS "01234" none (some ((r.length : Nat) : Int))).cps.toList = (wd (colsR r)).cps.toList
  rw [cutS_to (by omega), signs01, wd_tl, wd_tl, Int.toNat_natCast]
  unfold colsR
  have : r.length = 0 ∨ r.length = 1 ∨ r.length = 2 ∨ r.length = 3 ∨ r.length = 4 ∨ r.length = 5 := by omega
  rcases this with e | e | e | e | e | e <;> rw [e] <;> rfl)
theorem colsR_cols (r : Str) : Cols r (colsR r) := fun c hc => by
  unfold colsR at hc
  obtain ⟨k, hk, rfl⟩ := List.mem_map.mp hc
  have := List.mem_range.mp hk
  omega
theorem colsR_mem {r : Str} {c : Int} (h : 0 ≤ c ∧ c < (r.length : Int)) : c ∈ colsR r := by
  unfold colsR
  exact List.mem_map.mpr ⟨c.toNat, List.mem_range.mpr (by omega), by omega⟩
def wdOk (r : Str) (w : Str) : Bool := decide (w.length ≤ 200) && w.cps.toList.all fun c => decide (c ∈ (cutS "01234" none (some ((r.length : Nat) : Int))).cps.toList)
theorem wdOk_of {r : Str} {cs : List Int} (h5 : r.length ≤ 5) (h : Cols r cs) (hl : cs.length ≤ 200) : wdOk r (wd cs) = true := by
  unfold wdOk
  rw [wd_len, decide_eq_true hl, Bool.true_and, cut01 h5, List.all_eq_true, wd_tl, wd_tl]
  intro x hx
  obtain ⟨c, hc, rfl⟩ := List.mem_map.mp hx
  exact decide_eq_true (List.mem_map.mpr ⟨c, colsR_mem (h c hc), rfl⟩)
theorem wdOk_at {r w : Str} (h5 : r.length ≤ 5) (h : wdOk r w = true) : ∃ cs, w = wd cs ∧ Cols r cs ∧ cs.length ≤ 200 := by
  unfold wdOk at h
  simp only [Bool.and_eq_true, decide_eq_true_eq] at h
  obtain ⟨h1, h2⟩ := h
  rw [cut01 h5, List.all_eq_true, wd_tl] at h2
  have key : ∀ l : List Nat, (∀ x ∈ l, decide (x ∈ (colsR r).map dig) = true) → ∃ cs, l = cs.map dig ∧ Cols r cs := fun l => by
    induction l with
    | nil => exact fun _ => ⟨[], rfl, fun c hc => nomatch hc⟩
    | cons x l ih =>
      intro h
      obtain ⟨cs, e, hc⟩ := ih fun y hy => h y (by simp [hy])
      obtain ⟨c, hc0, rfl⟩ := List.mem_map.mp (of_decide_eq_true (h x (by simp)))
      refine ⟨c :: cs, by rw [e]; rfl, fun y hy => ?_⟩
      rcases List.mem_cons.mp hy with rfl | hy
      · exact colsR_cols r _ hc0
      · exact hc y hy
  obtain ⟨cs, e, hc⟩ := key _ h2
  have e2 : w = wd cs := TL.ext_tl (by show w.cps.toList = (wd cs).cps.toList; rw [e, wd_tl])
  exact ⟨cs, e2, hc, by rw [e2, wd_len] at h1; exact h1⟩
/-! ### promises -/
def UnW (K : PySem.W.Frag) (S : Sit) (v : V) (wk : Wk) : Prop := ∃ p, v = .ref p ∧ ∀ T, Le S T → SqT K T.H p [.int wk.1, .int wk.2.1, .int wk.2.2]
theorem UnW.up {K : PySem.W.Frag} {S T : Sit} {v : V} {wk : Wk} (h : UnW K S v wk) (l : Le S T) : UnW K T v wk := by
  obtain ⟨p, e, q⟩ := h
  exact ⟨p, e, fun U lU => q U (l.trans lU)⟩
theorem UnW.of {K : PySem.W.Frag} {S : Sit} {v : V} {wk : Wk} (h : Da K S.G v (eW3 wk)) : UnW K S v wk := by
  obtain ⟨a, xs, rfl, e1, e2⟩ := Da.tup_eq h
  refine ⟨a, rfl, fun T l => ?_⟩
  have e : xs = [.int wk.1, .int wk.2.1, .int wk.2.2] := DaAll.intsV (ns := [wk.1, wk.2.1, wk.2.2]) e2
  subst e
  exact SqT.of (T.sub _ _ (l.g _ _ e1))
def sp_look_word (K : PySem.W.Frag) : Sp := fun vs H Q E => ∃ (S : Sit) (r w : Str), S.H = H ∧ Vs K S.G vs [.d (.str r), .d (.str w)] ∧ r.length ≤ 10000 ∧ w.length ≤ 100000 ∧ Looks1 K S (wdOk r w) "BadText" Q E
def sp_turns (K : PySem.W.Frag) : Sp := fun vs H Q _ => ∃ (S : Sit) (r : Str) (v : V) (wk : Wk) (cs : List Int), S.H = H ∧ Vs K S.G vs [.d (.str r), .v v, .d (.str (wd cs))] ∧ UnW K S v wk ∧ ruleOk r = true ∧ (0 ≤ wk.2.2 ∧ wk.2.2 < 4) ∧ Cols r cs ∧ cs.length ≤ 1000 ∧
  (rdL r (rs0 wk) cs = none → ∀ T, Le S T → Q .non T.H) ∧ (∀ s, rdL r (rs0 wk) cs = some s → ∀ tp pf pd T, Le S T → Nw S pf → Nw S pd → pf ≠ pd → T.G tp = some (.tup [.ref pf, .ref pd]) → Ow K T pf (s.sp.map eP) → Dc T pd s.fst → Q (.ref tp) T.H)
def badW (r : Str) (wl : List Int) (w : Str) : Option Str := if ruleOk r = false then some "BadRule" else if wOk wl = false then some "BadWalker" else if wdOk r w = false then some "BadText" else none
abbrev AnsW := PySem.W.Frag → Str → Wk → List Int → Sit → VK → Prop
def sp_wask (F : AnsW) (K : PySem.W.Frag) : Sp := fun vs H Q E => ∃ (S : Sit) (r : Str) (wl : List Int) (w : Str), S.H = H ∧ Vs K S.G vs [.d (.str r), .d (eW wl), .d (.str w)] ∧ r.length ≤ 10000 ∧ wl.length ≤ 1000 ∧ w.length ≤ 100000 ∧
  (∀ x, badW r wl w = some x → ∀ T, Le S T → E (.ref (cE K x)) none T.H) ∧ (badW r wl w = none → ∀ wk cs, wl = w3 wk → w = wd cs → Cols r cs → cs.length ≤ 200 → F K r wk cs S Q)
def ansW (g : Rs → List PyData) : AnsW := fun K r wk cs S Q => (rdL r (rs0 wk) cs = none → ∀ T, Le S T → Q .non T.H) ∧ ∀ s, rdL r (rs0 wk) cs = some s → NewL K S (g s) Q
def flR (s : Rs) : List PyData := (toldL s.fst).map eM
def spR (s : Rs) : List PyData := s.sp.map eP
def eOL (g : Rs → List PyData) : Option Rs → PyData
  | none => .none
  | some s => .list (g s)
def badM (r : Str) (n : Int) : Option Str := if ruleOk r = false then some "BadRule" else if mOk n 5 = false then some "BadNumber" else none
def sp_many_words (K : PySem.W.Frag) : Sp := fun vs H Q E => ∃ (S : Sit) (r : Str) (n : Int), S.H = H ∧ Vs K S.G vs [.d (.str r), .d (.int n)] ∧ r.length ≤ 10000 ∧
  (∀ x, badM r n = some x → ∀ T, Le S T → E (.ref (cE K x)) none T.H) ∧ (badM r n = none → ∀ T, Le S T → Q (.int ((wordsR r n.toNat).length : Nat)) T.H)
def nextR (r : Str) (cs : List Int) : List Int := (colsR r).filter fun c => canR r (0, 0, 0) (cs ++ [c])
def eNx (r : Str) (cs : List Int) : PyData := if canR r (0, 0, 0) cs = true then .str (wd (nextR r cs)) else .none
def badX (r : Str) (w : Str) : Option Str := if ruleOk r = false then some "BadRule" else if wdOk r w = false then some "BadText" else none
def sp_next_signs (K : PySem.W.Frag) : Sp := fun vs H Q E => ∃ (S : Sit) (r w : Str), S.H = H ∧ Vs K S.G vs [.d (.str r), .d (.str w)] ∧ r.length ≤ 10000 ∧ w.length ≤ 100000 ∧
  (∀ x, badX r w = some x → ∀ T, Le S T → E (.ref (cE K x)) none T.H) ∧ (badX r w = none → ∀ cs, w = wd cs → Cols r cs → cs.length ≤ 200 → ∀ v T, Le S T → Da K T.G v (eNx r cs) → Q v T.H)
def eR : Option Rs → PyData
  | none => .none
  | some s => .tuple [.list (spR s), .list (flR s)]
def sp__law_reads (K : PySem.W.Frag) : Sp := fun vs H Q _ => ∃ (S : Sit) (r : Str) (wk : Wk) (cs : List Int), S.H = H ∧ Vs K S.G vs [.d (.str r), .d (eW3 wk), .d (.str (wd cs))] ∧ ruleOk r = true ∧ (0 ≤ wk.2.2 ∧ wk.2.2 < 4) ∧ Cols r cs ∧ cs.length ≤ 1000 ∧ ∀ v T, Le S T → Da K T.G v (eR (rdL r (rs0 wk) cs)) → Q v T.H
def sp__law_words (K : PySem.W.Frag) : Sp := fun vs H Q _ => ∃ (S : Sit) (r : Str) (n : Nat), S.H = H ∧ Vs K S.G vs [.d (.str r), .d (.int (n : Nat))] ∧ ruleOk r = true ∧ n ≤ 5 ∧ ∀ v T, Le S T → Da K T.G v (.list ((wordsR r n).map fun w => .str (wd w))) → Q v T.H
def sp__law_lacks (K : PySem.W.Frag) : Sp := fun vs H Q _ => ∃ (S : Sit) (r : Str) (wk : Wk) (fl : List Mk) (k : Nat) (cs : List Int), S.H = H ∧ Vs K S.G vs [.d (.str r), .d (eW3 wk), .d (eF fl), .d (.int (k : Nat)), .d (.str (wd cs))] ∧ ruleOk r = true ∧ wOk (w3 wk) = true ∧ floorOk r.length fl = true ∧ Cols r cs ∧ cs.length ≤ 200 ∧ ∀ v T, Le S T → Da K T.G v (.bool (decide (goSs r (marksD (fl.take k ++ fl.drop (k + 1)), wk) cs.length = cs))) → Q v T.H
/-! ### the module's start -/
def startB (K : PySem.W.Frag) : Bool := match tupIn K (He.ga K "START") with
  | some [u, v, w] => isInt 0 u && (isInt 0 v && isInt 0 w)
  | _ => false
structure Ts (K : PySem.W.Frag) (mg : Str → Option Value) : Prop where
  START : mg "START" = some (.ref (He.ga K "START"))
  st : ∀ H, SqT K H (He.ga K "START") [.int 0, .int 0, .int 0]
theorem start_of {K : PySem.W.Frag} (h : startB K = true) (H : Hp) : SqT K H (He.ga K "START") [.int 0, .int 0, .int 0] := by
  unfold startB at h
  split at h
  · rename_i u v w e
    obtain ⟨h0, h⟩ := He.ba h
    obtain ⟨h1, h2⟩ := He.ba h
    exact tupIn_sq e (.cons (isInt_rel h0) (.cons (isInt_rel h1) (.cons (isInt_rel h2) .nil))) (by show 3 ≤ _; decide) H
  · cases h
theorem Ts.un {K : PySem.W.Frag} {mg : Str → Option Value} (Y : Ts K mg) (S : Sit) : UnW K S (.ref (He.ga K "START")) (0, 0, 0) := ⟨_, rfl, fun T _ => Y.st T.H⟩
/-! ### asked -/
abbrev rIntS : List V → Hp → VK → Prop := fun xs H Q => ∃ a n, xs = [.str a] ∧ PySem.intText? a = some n ∧ a.length ≤ 640 ∧ Q (.int n) H
section
variable {K : PySem.W.Frag} {σ : L2.St} {S : Sit} {δ : List Sl} {E : XK} {tr : TA} {ta tb te : TE} {X D : Ends} {r : Str} {wk : Wk} {cs : List Int} {v : V} {p : Addr} {ds es : List PyData}
theorem ev_intS {c : Int} (ha : EvD K ta σ S (.str ⟨#[dig c]⟩)) (h : 0 ≤ c ∧ c < 5) : EvD K (tCB rIntS (tCons ta tNil)) σ S (.int c) :=
  ev_cb1 ha fun T x l hx Q q => by
    have e := Da.str_eq hx
    subst e
    exact ⟨_, c, rfl, dig_int h, by show 1 ≤ _; decide, q _ T (Le.refl T) (Da.int _)⟩
theorem ei_wd (h : EvD K te σ S (.str (wd cs))) : EvI K (iStr te) σ S (cs.map fun c => .str ⟨#[dig c]⟩) := by
  rw [← wd_signs]
  exact ei_str h
theorem ev_cut01 (hr : EvD K ta σ S (.str r)) (h5 : r.length ≤ 5) : EvD K (L2.tSl rSlS (tC (.str "01234")) tNoPart (tPart (tCB (rLen K) (tCons ta tNil)))) σ S (.str (wd (colsR r))) := by
  rw [← cut01 h5]
  exact ev_slS ev_cs eo_none (eo_some (ev_lenS hr (by omega))) (by decide)
/-- x, y, heading = walker -/
theorem st_unW {i j k : Nat} (hE : Sv K S.G σ δ) (ha : Ev K ta σ S (.v v)) (h : UnW K S v wk) (q : ∀ σ' T, Le S T → Sv K T.G σ' (((δ.set i (.d (.int wk.1))).set j (.d (.int wk.2.1))).set k (.d (.int wk.2.2))) → X.nx σ' T.H) :
    tAsg ta (gTup K 3 (gCons (gName i) (gCons (gName j) (gCons (gName k) gNil)))) X σ S.H := ha S (Le.refl S) _ fun x U l o => by
  cases (show some x = some v from o)
  obtain ⟨p, rfl, hp⟩ := h
  refine ⟨p, _, rfl, hp U l, rfl, _, _, rfl, _, _, rfl, _, [], rfl, rfl, ?_⟩
  exact q _ U l (Sv.set (slOk_d (Da.int _)) k (Sv.set (slOk_d (Da.int _)) j (Sv.set (slOk_d (Da.int _)) i (hE.up l.g))))
/-- x.extend(a new list) -/
theorem st_extR (ha : Ev K ta σ S (.v (.ref p))) (hp : Ow K S p ds) (hl : ds.length + es.length ≤ 900000) (he : EvF K te σ S es) (k : ∀ T, Lm [p] S T → Ow K T p (ds ++ es) → D.nx σ T.H) :
    tDrop (tBM K "list" rExtend ta (tCons te tNil)) D σ S.H := ha S (Le.refl S) _ fun v U l o => by
  cases (show some v = some (V.ref p) from o)
  obtain ⟨_, ys, e0, _⟩ := hp.up l
  refine ⟨.inl ⟨rfl, _, SqL.of e0⟩, he U l _ fun q W lW nq oW => ?_⟩
  obtain ⟨g, xs, e1, d1⟩ := (hp.up l).up lW
  obtain ⟨g2, zs, e2, d2⟩ := oW
  refine ⟨p, q, xs, zs, rfl, rfl, e1, e2, by rw [d1.length, d2.length, sizeLine_eq]; omega, ?_⟩
  refine k (W.mut p (.lst (xs ++ zs)) g) ?_ ⟨g, _, upd_same, d1.append d2⟩
  have a : Lm [p] W (W.mut p (.lst (xs ++ zs)) g) := ⟨Same.refl _, fun x u hx h => by
    show upd W.H p _ x = some u
    rw [upd_ne (fun z => hx (by simp [z]))]
    exact h, fun _ _ _ => rfl⟩
  have := ((l.trans lW).lm []).transM a (fun x hx => by simp at hx; subst hx; exact ⟨_, e1⟩) (fun x hx => nomatch hx)
  exact this
/-- turns_read(..) is None -/
theorem eb_turns {b : Bool} {op : Bool} (ha : EvA K tr σ S [.d (.str r), .v v, .d (.str (wd cs))]) (hv : UnW K S v wk) (hro : ruleOk r = true) (hh : 0 ≤ wk.2.2 ∧ wk.2.2 < 4) (hc : Cols r cs) (hl : cs.length ≤ 1000) :
    EvB K (tTest (tOp (fun x y H Q => y = V.non ∧ Q (.bl (decide (x = .non))) H) (tCall (sp_turns K) [] E tr) (tC .non))) σ S (!canR r wk cs) := fun T l Q q => ha T l _ fun vs U lU o => by
  rw [List.append_nil]
  unfold canR at q
  refine ⟨U, r, v, wk, cs, rfl, o, hv.up (l.trans lU), hro, hh, hc, hl, fun e W lW => ⟨rfl, true, rfl, ?_⟩, fun s e tp pf pd W lW n1 n2 n3 et o1 d1 => ⟨rfl, false, rfl, ?_⟩⟩
  · rw [e] at q
    exact q W (lU.trans lW)
  · rw [e] at q
    exact q W (lU.trans lW)
theorem eb_turnsN (ha : EvA K tr σ S [.d (.str r), .v v, .d (.str (wd cs))]) (hv : UnW K S v wk) (hro : ruleOk r = true) (hh : 0 ≤ wk.2.2 ∧ wk.2.2 < 4) (hc : Cols r cs) (hl : cs.length ≤ 1000) :
    EvB K (tTest (tOp (fun x y H Q => y = V.non ∧ Q (.bl (!decide (x = .non))) H) (tCall (sp_turns K) [] E tr) (tC .non))) σ S (canR r wk cs) := fun T l Q q => ha T l _ fun vs U lU o => by
  rw [List.append_nil]
  unfold canR at q
  refine ⟨U, r, v, wk, cs, rfl, o, hv.up (l.trans lU), hro, hh, hc, hl, fun e W lW => ⟨rfl, false, rfl, ?_⟩, fun s e tp pf pd W lW n1 n2 n3 et o1 d1 => ⟨rfl, true, rfl, ?_⟩⟩
  · rw [e] at q
    exact q W (lU.trans lW)
  · rw [e] at q
    exact q W (lU.trans lW)
theorem ev_reads (ha : EvA K tr σ S [.d (.str r), .d (eW3 wk), .d (.str (wd cs))]) (hro : ruleOk r = true) (hh : 0 ≤ wk.2.2 ∧ wk.2.2 < 4) (hc : Cols r cs) (hl : cs.length ≤ 1000) :
    EvD K (tCall (sp__law_reads K) [] E tr) σ S (eR (rdL r (rs0 wk) cs)) := fun T l Q q => ha T l _ fun vs U lU o => by
  rw [List.append_nil]
  exact ⟨U, r, wk, cs, rfl, o, hro, hh, hc, hl, fun v W lW o => q v W (lU.trans lW) o⟩
theorem ev_wask {g : Rs → List PyData} (ha : EvA K tr σ S [.d (.str r), .d (eW3 wk), .d (.str (wd cs))]) (hro : ruleOk r = true) (hw : wOk (w3 wk) = true) (hc : Cols r cs) (hl : cs.length ≤ 200) :
    EvD K (tCall (sp_wask (ansW g) K) [] E tr) σ S (eOL g (rdL r (rs0 wk) cs)) := fun T l Q q => ha T l _ fun vs U lU o => by
  rw [List.append_nil]
  have rl := ruleOk_len hro
  have hb : badW r (w3 wk) (wd cs) = none := by
    unfold badW
    rw [hro, hw, wdOk_of rl.2 hc hl]
    rfl
  refine ⟨U, r, w3 wk, wd cs, rfl, o, by omega, by show 3 ≤ _; decide, by rw [wd_len]; omega, (fun x e => by rw [hb] at e; cases e), fun _ wk' cs' e1 e2 hc' _ => ?_⟩
  cases w3_inj e1
  cases wd_inj (fun c hx => (hc c hx).1) (fun c hx => (hc' c hx).1) e2
  refine ⟨fun e W lW => ?_, fun s e => NewL.of fun v W lW o => ?_⟩
  · rw [e] at q
    exact q _ W (lU.trans lW) Da.non
  · rw [e] at q
    exact q v W (lU.trans lW) o
end
end MW

set_option Elab.async false
set_option linter.all false
set_option maxRecDepth 100000
set_option maxHeartbeats 4000000
namespace MW
open PySem PySem.Spec PyProof.Rows L2
set_option autoImplicit false
section
variable {K : PySem.W.Frag} {σ : L2.St} {S : Sit} {δ : List Sl} {E : XK} {tr : TA} {ta tb te : TE} {X D : Ends} {r : Str} {wk : Wk} {cs : List Int} {p : Addr} {ds es : List PyData}
theorem ev_pair0 {tp : Addr} {v1 v2 : V} (ha : Ev K ta σ S (.v (.ref tp))) (h : S.G tp = some (.tup [v1, v2])) : Ev K (tOp (rIxT K) ta (tC (.int 0))) σ S (.v v1) := fun T l Q q => ha T l _ fun v U lU oU => by
  cases (show some v = some (V.ref tp) from oU)
  exact ⟨tp, [v1, v2], 0, v1, rfl, rfl, SqT.of (U.sub _ _ ((l.trans lU).g _ _ h)), rfl, q v1 U lU rfl⟩
theorem ev_pair1 {tp : Addr} {v1 v2 : V} (ha : Ev K ta σ S (.v (.ref tp))) (h : S.G tp = some (.tup [v1, v2])) : Ev K (tOp (rIxT K) ta (tC (.int 1))) σ S (.v v2) := fun T l Q q => ha T l _ fun v U lU oU => by
  cases (show some v = some (V.ref tp) from oU)
  exact ⟨tp, [v1, v2], 1, v2, rfl, rfl, SqT.of (U.sub _ _ ((l.trans lU).g _ _ h)), rfl, q v2 U lU rfl⟩
theorem st_turns {i : Nat} (hE : Sv K S.G σ δ) (ha : EvA K tr σ S [.d (.str r), .d (eW3 wk), .d (.str (wd cs))]) (hro : ruleOk r = true) (hh : 0 ≤ wk.2.2 ∧ wk.2.2 < 4) (hc : Cols r cs) (hl : cs.length ≤ 1000)
    (k1 : rdL r (rs0 wk) cs = none → ∀ σ' T, Le S T → Sv K T.G σ' (δ.set i (.d .none)) → X.nx σ' T.H)
    (k2 : ∀ s, rdL r (rs0 wk) cs = some s → ∀ tp pf pd σ' T, Le S T → Nw S pf → Nw S pd → pf ≠ pd → T.G tp = some (.tup [.ref pf, .ref pd]) → Ow K T pf (s.sp.map eP) → Dc T pd s.fst → Sv K T.G σ' (δ.set i (.v (.ref tp))) → X.nx σ' T.H) :
    tAsg (tCall (sp_turns K) [] E tr) (gName i) X σ S.H := ha S (Le.refl S) _ fun vs T l hv => by
  rw [List.append_nil]
  cases hv with
  | cons a1 t =>
    cases t with
    | @cons v _ _ _ a2 t =>
      cases t with
      | cons a3 t =>
        cases t
        refine ⟨T, r, v, wk, cs, rfl, .cons a1 (.cons rfl (.cons a3 .nil)), UnW.of a2, hro, hh, hc, hl, fun e U lU => ?_, fun s e tp pf pd U lU n1 n2 n3 et o1 d1 => ?_⟩
        · exact k1 e _ U (l.trans lU) (Sv.set (slOk_d Da.non) i (hE.up (l.trans lU).g))
        · exact k2 s e tp pf pd _ U (l.trans lU) (Nw.back l n1) (Nw.back l n2) n3 et o1 d1 (Sv.set (slOk_v (K := K) (G := U.G) (.ref tp)) i (hE.up (l.trans lU).g))
theorem st_lrule (ha : EvA K tr σ S [.d (.str r)]) (hl : r.length ≤ 10000) (k1 : ruleOk r = true → ∀ T, Le S T → D.nx σ T.H) (k2 : ruleOk r = false → ∀ T, Le S T → E (.ref (cE K "BadRule")) none T.H) : tDrop (tCall (sp_look_rule K) [] E tr) D σ S.H := st_dropC ha fun vs T l hv => by
  rw [List.append_nil]
  exact ⟨T, r, rfl, hv, hl, fun e U lU => k1 e U (l.trans lU), fun e U lU => k2 e U (l.trans lU)⟩
theorem st_lwalker {wl : List Int} (ha : EvA K tr σ S [.d (eW wl)]) (hl : wl.length ≤ 1000) (k1 : wOk wl = true → ∀ T, Le S T → D.nx σ T.H) (k2 : wOk wl = false → ∀ T, Le S T → E (.ref (cE K "BadWalker")) none T.H) : tDrop (tCall (sp_look_walker K) [] E tr) D σ S.H := st_dropC ha fun vs T l hv => by
  rw [List.append_nil]
  exact ⟨T, wl, rfl, hv, hl, fun e U lU => k1 e U (l.trans lU), fun e U lU => k2 e U (l.trans lU)⟩
theorem st_lword {w : Str} (ha : EvA K tr σ S [.d (.str r), .d (.str w)]) (hl : r.length ≤ 10000) (hl2 : w.length ≤ 100000) (k1 : wdOk r w = true → ∀ T, Le S T → D.nx σ T.H) (k2 : wdOk r w = false → ∀ T, Le S T → E (.ref (cE K "BadText")) none T.H) : tDrop (tCall (sp_look_word K) [] E tr) D σ S.H := st_dropC ha fun vs T l hv => by
  rw [List.append_nil]
  exact ⟨T, r, w, rfl, hv, hl, hl2, fun e U lU => k1 e U (l.trans lU), fun e U lU => k2 e U (l.trans lU)⟩
theorem te_dict {Q : VK} (k : ∀ p T, Le S T → Nw S p → Dc T p ([] : Dd Int) → Q (.ref p) T.H) : tDNewT σ S.H Q := fun p hp =>
  k p (S.pushM p (.dT []) hp) (S.pushM_le hp) (Nw.of hp) ⟨S.gfree hp, upd_same⟩
theorem te_own0 {Q : VK} (k : ∀ p T, Le S T → Nw S p → Ow K T p [] → Q (.ref p) T.H) : tLst tNil σ S.H Q :=
  ⟨sz (by show 0 ≤ _; decide), fun p hp => k p (S.pushM p (.lst []) hp) (S.pushM_le hp) (Nw.of hp) ⟨S.gfree hp, [], upd_same, .nil⟩⟩
/-- known, first, here, spots = ({}, {}, walker, []) -/
theorem st_four {d : PyData} {i1 i2 i3 i4 : Nat} (hE : Sv K S.G σ δ) (h : EvD K te σ S d) (k : ∀ p1 p2 p3 σ' T, Le S T → Nw S p1 → Nw S p2 → Nw S p3 → p1 ≠ p2 → p1 ≠ p3 → p2 ≠ p3 → Dc T p1 ([] : Dd Int) → Dc T p2 ([] : Dd Int) → Ow K T p3 [] → Sv K T.G σ' ((((δ.set i1 (.v (.ref p1))).set i2 (.v (.ref p2))).set i3 (.d d)).set i4 (.v (.ref p3))) → X.nx σ' T.H) :
    tAsg (tTup (tCons tDNewT (tCons tDNewT (tCons te (tCons (tLst tNil) tNil))))) (gTup K 4 (gCons (gName i1) (gCons (gName i2) (gCons (gName i3) (gCons (gName i4) gNil))))) X σ S.H := by
  have key : ∀ Q : List V → Hp → Prop, (∀ p1 p2 p3 v T, Le S T → Nw S p1 → Nw S p2 → Nw S p3 → p1 ≠ p2 → p1 ≠ p3 → p2 ≠ p3 → Dc T p1 ([] : Dd Int) → Dc T p2 ([] : Dd Int) → Ow K T p3 [] → Da K T.G v d → Q [.ref p1, .ref p2, v, .ref p3] T.H) → (tCons tDNewT (tCons tDNewT (tCons te (tCons (tLst tNil) tNil)))) σ S.H Q := by
    intro Q q
    unfold tCons
    refine te_dict fun p1 T1 l1 n1 d1 => ?_
    refine te_dict fun p2 T2 l2 n2 d2 => ?_
    refine h T2 (l1.trans l2) _ fun v T3 l3 o3 => ?_
    refine te_own0 (K := K) fun p3 T4 l4 n4 o4 => ?_
    have l12 := l1.trans l2
    have l13 := l12.trans l3
    have e1 := (d1.up l2).up l3
    exact q p1 p2 p3 v T4 (l13.trans l4) n1 (Nw.back l1 n2) (Nw.back l13 n4) (n2 p1 _ d1.2) (n4 p1 _ e1.2) (n4 p2 _ (d2.up l3).2) (e1.up l4) ((d2.up l3).up l4) o4 (Da.up l4.g o3)
  unfold tAsg tTup
  refine key _ fun p1 p2 p3 v T4 l4 n1 n2 n3 n12 n13 n23 d1 d2 o3 o => ⟨sz (by show 4 ≤ _; decide), fun tp htp => ?_⟩
  have lp := T4.push_le (o := .tup [.ref p1, .ref p2, v, .ref p3]) htp
  refine ⟨tp, [.ref p1, .ref p2, v, .ref p3], rfl, SqT.of upd_same, rfl, _, _, rfl, _, _, rfl, _, _, rfl, _, [], rfl, rfl, ?_⟩
  have ll := l4.trans lp
  refine k p1 p2 p3 _ (T4.push tp (.tup [.ref p1, .ref p2, v, .ref p3]) htp) ll n1 n2 n3 n12 n13 n23 (d1.up lp) (d2.up lp) (o3.up lp) ?_
  exact Sv.set (slOk_v (K := K) (.ref p3)) i4 (Sv.set (slOk_d (Da.up lp.g o)) i3 (Sv.set (slOk_v (K := K) (.ref p2)) i2 (Sv.set (slOk_v (K := K) (.ref p1)) i1 (hE.up ll.g))))
theorem ev_lstOfT (ha : EvD K ta σ S (.tuple ds)) : EvD K (tCB (rLstOf K) (tCons ta tNil)) σ S (.list ds) :=
  ev_cb1 ha fun T x _ hx Q q => by
    obtain ⟨a, xs, rfl, h1, h2⟩ := Da.tup_eq hx
    exact ⟨a, xs, rfl, .inr (SqT.of (T.sub _ _ h1)), fun p hp => q (.ref p) (T.push p _ hp) (T.push_le hp) (Da.lst upd_same (DaAll.up (T.push_le hp).g h2))⟩
end
theorem dput_dput {D : Dd Int} {p : Pl} {a b : Int} : dput (dput D p a) p b = dput D p b := by
  unfold dput
  by_cases h : (D.any fun q => decide (q.1 = p)) = true
  · rw [if_pos h]
    have e : ((D.map fun q => if q.1 = p then (q.1, a) else q).any fun q => decide (q.1 = p)) = true := by
      rw [List.any_map]
      obtain ⟨q, hq, hp⟩ := List.any_eq_true.mp h
      exact List.any_eq_true.mpr ⟨q, hq, by have c := of_decide_eq_true hp; simp [c]⟩
    rw [if_pos e, if_pos h, List.map_map]
    refine List.map_congr_left fun q _ => ?_
    simp only [Function.comp]
    by_cases c : q.1 = p
    · rw [if_pos c, if_pos c, if_pos c]
    · rw [if_neg c, if_neg c]
  · rw [if_neg h, if_neg h]
    have e : ((D ++ [(p, a)]).any fun q => decide (q.1 = p)) = true := by
      rw [List.any_append]
      simp
    rw [if_pos e, List.map_append]
    have e2 : (D.map fun q => if q.1 = p then (q.1, b) else q) = D := by
      refine (List.map_congr_left fun q hq => ?_).trans (List.map_id D)
      rw [if_neg]
      · rfl
      · intro c
        exact h (List.any_eq_true.mpr ⟨q, hq, decide_eq_true c⟩)
    rw [e2]
    simp
end MW

set_option Elab.async false
set_option linter.all false
set_option maxRecDepth 100000
set_option maxHeartbeats 4000000
namespace MW
open PySem PySem.Spec PyProof.Rows L2
set_option autoImplicit false
abbrev cS (l : Cs) : Str := ⟨l.toArray⟩
theorem cS_len (l : Cs) : (cS l).length = l.length := SX.S_len l
/-! ### cuts of texts -/
theorem cut_toS {a : Cs} {i : Int} (h : 0 ≤ i) : cutS (cS a) none (some i) = cS (a.take i.toNat) := by
  unfold cutS
  rw [cS_len]
  have e1 : HT.sIx a.length 0 none = 0 := rfl
  have e2 : HT.sIx a.length a.length (some i) = min i.toNat a.length := by
    simp [HT.sIx]
    intro hh
    omega
  rw [e1, e2, List.drop_zero, Nat.sub_zero]
  show cS (a.take (min i.toNat a.length)) = _
  by_cases c : i.toNat ≤ a.length
  · rw [Nat.min_eq_left c]
  · rw [Nat.min_eq_right (by omega), List.take_of_length_le (by omega), List.take_of_length_le (by omega)]
theorem cut_fromS {a : Cs} {i : Int} (h : 0 ≤ i) : cutS (cS a) (some i) none = cS (a.drop i.toNat) := by
  unfold cutS
  rw [cS_len]
  have e1 : HT.sIx a.length a.length none = a.length := rfl
  have e2 : HT.sIx a.length 0 (some i) = min i.toNat a.length := by
    simp [HT.sIx]
    intro hh
    omega
  rw [e1, e2]
  show cS ((a.drop (min i.toNat a.length)).take (a.length - min i.toNat a.length)) = _
  rw [List.take_of_length_le (by rw [List.length_drop]; omega)]
  by_cases c : i.toNat ≤ a.length
  · rw [Nat.min_eq_left c]
  · rw [Nat.min_eq_right (by omega), List.drop_of_length_le (by omega), List.drop_of_length_le (by omega)]
theorem cut_initS (a : Cs) : cutS (cS a) none (some (-1)) = cS a.dropLast := by
  unfold cutS
  rw [cS_len]
  have e1 : HT.sIx a.length 0 none = 0 := rfl
  have e2 : HT.sIx a.length a.length (some (-1)) = a.length - 1 := by
    simp [HT.sIx]
    omega
  rw [e1, e2, List.drop_zero, Nat.sub_zero]
  show cS (a.take (a.length - 1)) = _
  rw [List.dropLast_eq_take]
theorem at_lastS {a : Cs} (h : a ≠ []) : L2.atI a (-1) = some (lastC a) := by
  obtain ⟨b, c, rfl⟩ : ∃ b c, a = b ++ [c] := ⟨a.dropLast, a.getLast h, (List.dropLast_concat_getLast h).symm⟩
  rw [lastC_app]
  exact atI_last
/-! ### evaluations -/
section
variable {K : PySem.W.Frag} {σ : L2.St} {S : Sit} {ta tb te : TE} {a b w : Cs} {c : Nat} {k : Int}
abbrev rSplit : V → List V → Hp → VK → Prop := fun x xs H Q => ∃ a b, x = .str a ∧ xs = [.str b] ∧ (b.length == 0) = false ∧ a.length + 2 ≤ sizeLine ∧ rNewStrs (Txt.split a b) H Q
def eTs (ws : List Cs) : PyData := .list (ws.map fun p => .str (cS p))
theorem da_strs (G : Hp) : ∀ ws : List Cs, DaAll K G ((ws.map cS).map V.str) (ws.map fun p => .str (cS p))
  | [] => .nil
  | z :: zs => .cons (Da.str _) (da_strs G zs)
theorem ev_split (ha : EvD K ta σ S (.str (cS w))) (hb : EvD K tb σ S (.str (cS [c]))) (hc : c < 256) (hl : w.length ≤ 900000) : EvD K (tM1 rSplit ta tb) σ S (eTs (spC c w)) := fun T l Q q =>
  ha T l _ fun x U lU o => by
    have ex := Da.str_eq o
    subst ex
    refine ⟨⟨_, rfl⟩, hb U (l.trans lU) _ fun y W lW oy => ?_⟩
    have ey := Da.str_eq oy
    subst ey
    refine ⟨_, _, rfl, rfl, rfl, ?_, fun p hp => ?_⟩
    · rw [cS_len]
      exact sz (by omega)
    · have e : Txt.split (cS w) (cS [c]) = (spC c w).map cS := SX.split_S (by simp) (by simpa using hc)
      rw [e]
      refine q (.ref p) (W.push p _ hp) ((lU.trans lW).trans (W.push_le hp)) (Da.lst upd_same ?_)
      exact da_strs _ _
abbrev rSidx : V → List V → Hp → VK → Prop := fun x xs H Q => ∃ a b i rest, x = .str a ∧ xs = [.str b] ∧ Builtin.Str.occurrences a b 0 a.length 1 = i :: rest ∧ Q (.int (i : Nat)) H
theorem hd_idx : ∀ c ∈ hdL, Builtin.Str.occurrences (cS hdL) (cS [c]) 0 (cS hdL).length 1 = [hdL.idxOf c] := by decide +kernel
theorem ev_sidx (ha : EvD K ta σ S (.str (cS hdL))) (hb : EvD K tb σ S (.str (cS [c]))) (hc : c ∈ hdL) : EvD K (tM1 rSidx ta tb) σ S (.int (hdI c)) := fun T l Q q =>
  ha T l _ fun x U lU o => by
    have ex := Da.str_eq o
    subst ex
    refine ⟨⟨_, rfl⟩, hb U (l.trans lU) _ fun y W lW oy => ?_⟩
    have ey := Da.str_eq oy
    subst ey
    exact ⟨_, _, hdL.idxOf c, [], rfl, rfl, hd_idx c hc, q _ W (lU.trans lW) (Da.int _)⟩
theorem ev_intD (ha : EvD K ta σ S (.str (cS w))) (h : w.all isFig = true) (h1 : 1 ≤ w.length) (h3 : w.length ≤ 3) : EvD K (tCB rIntS (tCons ta tNil)) σ S (.int ((NumText.digitsVal w : Nat) : Int)) :=
  ev_cb1 ha fun T x l hx Q q => by
    have e := Da.str_eq hx
    subst e
    refine ⟨_, _, rfl, SX.int_S ?_ ?_ (by omega), by rw [cS_len]; omega, q _ T (Le.refl T) (Da.int _)⟩
    · rw [List.all_eq_true] at h ⊢
      intro c hc
      have z := of_decide_eq_true (h c hc)
      simp at z
      simp
      omega
    · intro e
      rw [e] at h1
      exact absurd h1 (by decide)
theorem ev_strL (ha : EvD K ta σ S (.int k)) (hk : -100 ≤ k ∧ k ≤ 100) : EvD K (tCB rStrI (tCons ta tNil)) σ S (.str (cS (strL k))) := by
  have z := ev_strI ha (by omega : k.natAbs < 2 ^ 64)
  have e : Str.ofString (toString k) = cS (strL k) := (num_facts k (nums_mem.mpr hk)).2.2.2.2
  have z : EvD K (tCB rStrI (tCons ta tNil)) σ S (.str (Str.ofString (toString k))) := z
  rw [e] at z
  exact z
abbrev rAddS : V → V → Hp → VK → Prop := fun x y H Q => ∃ i j, x = V.str i ∧ y = V.str j ∧ i.length + j.length ≤ sizeLine ∧ Q (.str (i ++ j)) H
theorem ev_addC (ha : EvD K ta σ S (.str (cS a))) (hb : EvD K tb σ S (.str (cS b))) (hl : a.length + b.length ≤ 1000000) : EvD K (tOp rAddS ta tb) σ S (.str (cS (a ++ b))) := by
  have z := ev_addS ha hb (by rw [cS_len, cS_len]; exact hl)
  have e : cS a ++ cS b = cS (a ++ b) := SX.S_cat a b
  rw [e] at z
  exact z
theorem ev_joinC {ws : List Cs} (ha : EvD K ta σ S (.str (cS a))) (hb : EvD K tb σ S (eTs ws)) (hl : (ws.map (·.length)).sum + ws.length * a.length ≤ 16777216) : EvD K (tM1 (rJoin K) ta tb) σ S (.str (cS (TL.joinL a ws))) := by
  have hb' : EvD K tb σ S (.list ((ws.map cS).map PyData.str)) := by
    rw [List.map_map]
    exact hb
  have z := ev_join ha hb' (by
    rw [SX.lens, List.length_map, cS_len]
    exact hl)
  have e : Txt.join (cS a) (ws.map cS) = cS (TL.joinL a ws) := SX.join_S a ws
  rw [e] at z
  exact z
theorem shp_cs (h : ∀ c ∈ w, c < 128) : Shp 0 (.str (cS w)) := shp_str (by
  show PyData.strOk _ = true
  unfold PyData.strOk
  rw [← Array.all_toList, List.all_eq_true]
  intro c hc
  have := h c hc
  simp
  omega)
theorem eqv_cs (a b : Cs) : PyData.eqv (.str (cS a)) (.str (cS b)) = decide (a = b) := by
  show (cS a == cS b) = _
  exact SX.S_beq_eq
end
/-! ### what may raise BadText -/
def EvR (K : PySem.W.Frag) (E : XK) (te : TE) (σ : L2.St) (S : Sit) (o : Option PyData) : Prop := ∀ T, Le S T → ∀ Q : VK, (o = none → ∀ U, Le T U → E (.ref (cE K "BadText")) none U.H) → (∀ d, o = some d → ∀ v U, Le T U → Da K U.G v d → Q v U.H) → te σ T.H Q
end MW

set_option Elab.async false
set_option linter.all false
set_option maxRecDepth 100000
set_option maxHeartbeats 4000000
namespace MW
open PySem PySem.Spec PyProof.Rows L2
set_option autoImplicit false
def allO {α : Type} (f : α → Option PyData) : List α → Option (List PyData)
  | [] => some []
  | x :: l => match f x, allO f l with
    | some d, some ds => some (d :: ds)
    | _, _ => none
theorem allO_none {α : Type} {f : α → Option PyData} : ∀ {xs : List α} {x : α}, x ∈ xs → f x = none → allO f xs = none
  | y :: l, x, hx, h => by
    rcases List.mem_cons.mp hx with rfl | hx
    · simp only [allO, h]
    · simp only [allO, allO_none hx h]
      cases f y <;> rfl
theorem allO_app {α : Type} {f : α → Option PyData} {x : α} {d : PyData} (h : f x = some d) : ∀ {xs : List α} {ds : List PyData}, allO f xs = some ds → allO f (xs ++ [x]) = some (ds ++ [d])
  | [], ds, e => by
    cases e
    simp only [List.nil_append, allO, h]
  | y :: l, ds, e => by
    simp only [allO] at e
    cases h1 : f y with
    | none => rw [h1] at e; cases e
    | some dy =>
      cases h2 : allO f l with
      | none => rw [h1, h2] at e; cases e
      | some dl =>
        rw [h1, h2] at e
        cases e
        simp only [List.cons_append, allO, h1, allO_app h h2]
def pr2 : Option Int → Option Int → Option Pl
  | some a, some b => some (a, b)
  | _, _ => none
def pm2 : Option Pl → Option Int → Option Mk
  | some p, some c => some (p.1, p.2, c)
  | _, _ => none
theorem plP_of {x a b : Cs} (h : spC 44 x = [a, b]) : plP x = pr2 (numP a) (numP b) := by
  unfold plP
  rw [h]
  simp only [two]
  cases numP a <;> cases numP b <;> rfl
theorem mkP_of {x a b : Cs} (h : spC 58 x = [a, b]) : mkP x = pm2 (plP a) (numP b) := by
  unfold mkP
  rw [h]
  simp only [two]
  cases plP a <;> cases numP b <;> rfl
section
variable {K : PySem.W.Frag} {E : XK} {σ : L2.St} {S : Sit} {δ : List Sl} {ta tb te : TE} {o o1 o2 : Option PyData} {X : Ends}
theorem evr_ev {d : PyData} (h : EvD K te σ S d) : EvR K E te σ S (some d) := fun T l Q _ hs => h T l Q fun v U lU ov => hs d rfl v U lU ov
theorem evr_is (h : EvR K E te σ S o) (e : o = o1) : EvR K E te σ S o1 := e ▸ h
theorem evr_b (F : TE → TE → TE) (hF : ∀ ta tb σ H Q, F ta tb σ H Q = ta σ H fun x H1 => tb σ H1 fun y H2 => F (tC x) (tC y) σ H2 Q) (h1 : EvR K E ta σ S o1) (h2 : EvR K E tb σ S o2) (n1 : o1 = none → o = none) (n2 : o2 = none → o = none)
    (hr : ∀ d e, o1 = some d → o2 = some e → ∃ c, o = some c ∧ ∀ x y T, Same S.G T.G → EvD K (tC x) σ T d → EvD K (tC y) σ T e → EvD K (F (tC x) (tC y)) σ T c) : EvR K E (F ta tb) σ S o := fun T l Q hn hs => by
  rw [hF]
  refine h1 T l _ (fun e U lU => hn (n1 e) U lU) fun d e1 v U lU ov => h2 U (l.trans lU) _ (fun e W lW => hn (n2 e) W (lU.trans lW)) fun d2 e2 v2 W lW o2 => ?_
  obtain ⟨c, hc, h⟩ := hr d d2 e1 e2
  exact en_ev (h v v2 W ((l.trans lU).trans lW).g (ev_c (Da.up lW.g ov)) (ev_c o2)) fun w V lV oV => hs c hc w V ((lU.trans lW).trans lV) oV
theorem evr_u (F : TE → TE) (hF : ∀ ta σ H Q, F ta σ H Q = ta σ H fun x H1 => F (tC x) σ H1 Q) (h1 : EvR K E ta σ S o1) (n1 : o1 = none → o = none)
    (hr : ∀ d, o1 = some d → ∃ c, o = some c ∧ ∀ x T, Same S.G T.G → EvD K (tC x) σ T d → EvD K (F (tC x)) σ T c) : EvR K E (F ta) σ S o := fun T l Q hn hs => by
  rw [hF]
  refine h1 T l _ (fun e U lU => hn (n1 e) U lU) fun d e1 v U lU ov => ?_
  obtain ⟨c, hc, h⟩ := hr d e1
  exact en_ev (h v U (l.trans lU).g (ev_c ov)) fun w V lV oV => hs c hc w V (lU.trans lV) oV
theorem st_retR (h : EvR K E te σ S o) (h1 : o = none → ∀ T, Le S T → E (.ref (cE K "BadText")) none T.H) (h2 : ∀ d, o = some d → ∀ v T, Le S T → Da K T.G v d → X.rt v T.H) : tRet te X σ S.H := h S (Le.refl S) _ h1 h2
theorem st_asgR {i : Nat} (hE : Sv K S.G σ δ) (h : EvR K E te σ S o) (h1 : o = none → ∀ T, Le S T → E (.ref (cE K "BadText")) none T.H) (h2 : ∀ d, o = some d → ∀ σ' T, Le S T → Sv K T.G σ' (δ.set i (.d d)) → X.nx σ' T.H) : tAsg te (gName i) X σ S.H :=
  h S (Le.refl S) _ h1 fun d e v U l ov => h2 d e _ U l (Sv.set (slOk_d ov) i (hE.up l.g))
theorem evr_tup2 {x y : Option Int} (h1 : EvR K E ta σ S (x.map PyData.int)) (h2 : EvR K E tb σ S (y.map PyData.int)) : EvR K E (tTup (tCons ta (tCons tb tNil))) σ S ((pr2 x y).map eP) := by
  refine evr_b (fun x y => tTup (tCons x (tCons y tNil))) (fun _ _ _ _ _ => rfl) h1 h2 ?_ ?_ ?_
  · cases x <;> cases y <;> simp [pr2]
  · cases x <;> cases y <;> simp [pr2]
  · intro d e e1 e2
    cases x with
    | none => cases e1
    | some a =>
      cases y with
      | none => cases e2
      | some b =>
        cases e1
        cases e2
        exact ⟨_, rfl, fun x y T _ hx hy => ev_tup (ds := [.int a, .int b]) (ea_ds hx (ea_ds hy ea_d0)) (by show 2 ≤ _; decide)⟩
theorem evr_cat1 {p : Option Pl} {c : Option Int} (h1 : EvR K E ta σ S (p.map eP)) (h2 : EvR K E tb σ S (c.map PyData.int)) : EvR K E (tOp (rCatT K) ta (tTup (tCons tb tNil))) σ S ((pm2 p c).map eM) := by
  refine evr_b (fun x y => tOp (rCatT K) x (tTup (tCons y tNil))) (fun _ _ _ _ _ => rfl) h1 h2 ?_ ?_ ?_
  · cases p <;> cases c <;> simp [pm2]
  · cases p <;> cases c <;> simp [pm2]
  · intro d e e1 e2
    cases p with
    | none => cases e1
    | some p =>
      cases c with
      | none => cases e2
      | some c =>
        cases e1
        cases e2
        exact ⟨_, rfl, fun x y T _ hx hy => ev_catT (xs := [.int p.1, .int p.2]) (ys := [.int c]) hx (ev_tup (ea_ds hy ea_d0) (by show 1 ≤ _; decide)) (by simp) (by simp) (by show 3 ≤ _; decide)⟩
theorem evr_lc {α : Type} {xs : List α} {enc : α → PyData} {wi : TI} {g : TG} {vs : List Nat} (hE : Sv K S.G σ δ) (hi : EvI K wi σ S (xs.map enc)) (tgs : α → List (Nat × PyData)) (f : α → Option PyData)
    (hg : ∀ x ∈ xs, Tg K g (enc x) (tgs x)) (hv : ∀ x ∈ xs, ∀ q ∈ tgs x, q.1 ∈ vs)
    (he : ∀ x ∈ xs, ∀ σ' T, Le S T → Sv K T.G σ' (putD (vs.foldr (fun i δ => δ.set i .non) δ) (tgs x)) → EvR K E te σ' T (f x)) (hn : xs.length ≤ 900000) :
    EvR K E (tLc wi g tYes te vs) σ S ((allO f xs).map PyData.list) := fun T0 a0 Q q0 q =>
  hi T0 a0 _ fun J U l hJ X hX => by
    have lSU : Le S U := a0.trans l
    have hlen : (xs.map enc).length = xs.length := List.length_map _
    let I : Nat → Hp → Prop := fun i H => ∃ (T : Sit) (acc : List V) (ds : List PyData), T.H = H ∧ Le U T ∧ T.G X = none ∧ H X = some (.lst acc) ∧ allO f (xs.take i) = some ds ∧ DaAll K T.G acc ds ∧ acc.length ≤ i
    refine ⟨fun i m H => m = xs.length - i ∧ i ≤ xs.length ∧ I i H, ⟨xs.length, by simp, Nat.zero_le _, U.pushM X _ hX, [], [], rfl, U.pushM_le hX, U.gfree hX, upd_same, rfl, .nil, Nat.le_refl _⟩, ?_⟩
    rintro i m H ⟨rfl, hle, T, acc, ds, rfl, lU, gX, eX, hds, dX, hacc⟩
    obtain ⟨j1, j2, j3⟩ := hJ T lU.g
    by_cases hlt : i < xs.length
    · have hget : (xs.map enc)[i]? = some (enc xs[i]) := by rw [List.getElem?_map, List.getElem?_eq_getElem hlt]; rfl
      have hmem : xs[i] ∈ xs := List.getElem_mem hlt
      have htake : xs.take (i + 1) = xs.take i ++ [xs[i]] := by rw [List.take_add_one, List.getElem?_eq_getElem hlt]; rfl
      refine .inr ⟨j1 i (by rw [hlen]; exact hlt), I (i + 1), fun H' hN => ⟨xs.length - (i + 1), by omega, rfl, hlt, hN⟩, fun x H' hy => ?_⟩
      obtain ⟨e, hx⟩ := j3 i _ x H' hget hy
      subst e
      refine hg _ hmem x _ T _ hx fun σ' h1 h2 => ⟨(h2 vs (hv _ hmem)).trans ?_, ?_⟩
      · have idem : ∀ (ws : List Nat) (τ : L2.St), (∀ w ∈ ws, w ∈ vs) → wipe (wipe τ ws) vs = wipe τ vs := by
          intro ws
          induction ws with
          | nil => intro τ _; rfl
          | cons w ws ih =>
            intro τ hw
            show wipe ((wipe τ ws).set w none) vs = wipe τ vs
            rw [wipe_set (hw w (by simp)), ih τ fun z hz => hw z (by simp [hz])]
        exact idem vs σ fun w hw => hw
      · have hE' : Sv K T.G σ' (putD (vs.foldr (fun i δ => δ.set i .non) δ) (tgs xs[i])) := h1 _ ((hE.up (lSU.trans lU).g).wipe vs)
        have lST : Le S T := lSU.trans lU
        refine eb_yes (K := K) (S := T) T (Le.refl T) _ fun V lV => ?_
        have gXV : V.G X = none := (lV.2.2 X _ eX).trans gX
        have eXV : V.H X = some (.lst acc) := lV.2.1 X _ eX
        refine iteT (he _ hmem σ' V (lST.trans lV) (hE'.up lV.g) V (Le.refl V) _ (fun e W lW => ?_) fun d ed y W lW oW => ?_)
        · exact q0 (by rw [allO_none hmem e]; rfl) W (((l.trans lU).trans lV).trans lW)
        · have gXW : W.G X = none := (lW.2.2 X _ eXV).trans gXV
          have eXW : W.H X = some (.lst acc) := lW.2.1 X _ eXV
          have lUW : Le U W := (lU.trans lV).trans lW
          refine ⟨acc, eXW, szl (by omega), W.mut X _ gXW, acc ++ [y], ds ++ [d], rfl, ⟨lUW.1, fun b o hb => ?_, lUW.2.2⟩, gXW, upd_same, ?_, (DaAll.up (lV.trans lW).g dX).append (.cons oW .nil), by rw [List.length_append]; show acc.length + 1 ≤ _; omega⟩
          · show upd W.H X _ b = some o
            have nb : b ≠ X := fun z => by rw [z, hX] at hb; cases hb
            rw [upd_ne nb]
            exact lUW.2.1 b o hb
          · rw [htake]
            exact allO_app ed hds
    · have e : i = xs.length := by omega
      subst e
      rw [List.take_length] at hds
      refine .inl ⟨by rw [hlen] at j2; exact j2, ?_⟩
      refine q (.list ds) (by rw [hds]; rfl) (.ref X) (T.freeze X _ eX) (l.trans ⟨fun b o hb => ?_, lU.2.1, fun b o hb => ?_⟩) ?_
      · show upd T.G X _ b = some o
        have nb : b ≠ X := fun z => by
          have := U.sub b o hb
          rw [z, hX] at this; cases this
        rw [upd_ne nb]
        exact lU.1 b o hb
      · show upd T.G X _ b = U.G b
        have nb : b ≠ X := fun z => by rw [z, hX] at hb; cases hb
        rw [upd_ne nb]
        exact lU.2.2 b o hb
      · exact Da.lst upd_same (DaAll.up (T.freeze_g eX gX) dX)
end
theorem mem_joinL {sp : Cs} : ∀ {ps : List Cs} {p : Cs}, p ∈ ps → (∀ x ∈ p, x ∈ TL.joinL sp ps) ∧ p.length ≤ (TL.joinL sp ps).length
  | a :: l, p, h => by
    by_cases c : l = []
    · subst c
      rw [List.mem_singleton.mp h]
      simp [TL.joinL]
    · rw [joinL_cons c]
      rcases List.mem_cons.mp h with rfl | h
      · exact ⟨fun x hx => by simp [hx], by simp⟩
      · obtain ⟨h1, h2⟩ := mem_joinL (sp := sp) h
        refine ⟨fun x hx => by simp [h1 x hx], ?_⟩
        simp only [List.length_append]
        omega
theorem spC_mem {c : Nat} {w p : Cs} (h : p ∈ spC c w) : (∀ x ∈ p, x ∈ w) ∧ p.length ≤ w.length := by
  have z := mem_joinL (sp := [c]) h
  rw [join_spC] at z
  exact z
theorem spC_len (c : Nat) (w : Cs) : (spC c w).length ≤ w.length + 1 := by
  have key : ∀ (t acc : Cs), (TL.spl [c] 0 acc t).length ≤ t.length + 1 := by
    intro t
    induction t with
    | nil => intro acc; rw [TL.spl_nil]; simp
    | cons x r ih =>
      intro acc
      by_cases h : x = c
      · rw [TL.spl_hit (by rw [pre_one]; exact decide_eq_true h)]
        have := ih []
        show (TL.spl [c] 0 [] r).length + 1 ≤ r.length + 1 + 1
        omega
      · rw [TL.spl_miss (by rw [pre_one]; exact decide_eq_false h)]
        have := ih (acc ++ [x])
        show _ ≤ r.length + 1 + 1
        omega
  exact key w []
theorem allO_mk : ∀ ws : List Cs, allO (fun w => (mkP w).map eM) ws = (allP mkP ws).map (List.map eM)
  | [] => rfl
  | w :: ws => by
    simp only [allO, allP]
    rw [allO_mk ws]
    cases mkP w <;> cases allP mkP ws <;> rfl
theorem two_none {α : Type} {f : Cs → Cs → Option α} : ∀ {l : List Cs}, ¬ l.length = 2 → two f l = none
  | [], _ => rfl
  | [_], _ => rfl
  | [_, _], h => absurd rfl h
  | _ :: _ :: _ :: _, _ => rfl
theorem len_two : ∀ {l : List Cs}, l.length = 2 → ∃ a b, l = [a, b]
  | [a, b], _ => ⟨a, b, rfl⟩
theorem ev_lit {K : PySem.W.Frag} {σ : L2.St} {S : Sit} {x : Str} {l : Cs} (e : x = cS l) : EvD K (tC (.str x)) σ S (.str (cS l)) := e ▸ ev_cs
theorem lit_minus : ("-" : Str) = cS [45] := by decide +kernel
theorem lit_comma : ("," : Str) = cS [44] := by decide +kernel
theorem lit_colon : (":" : Str) = cS [58] := by decide +kernel
theorem lit_blank : (" " : Str) = cS [32] := by decide +kernel
theorem lit_hd : ("^>v<" : Str) = cS hdL := by decide +kernel
theorem lit_fig : ("0123456789" : Str) = cS [48, 49, 50, 51, 52, 53, 54, 55, 56, 57] := by decide +kernel
theorem lit_empty : ("" : Str) = cS [] := by decide +kernel
/-! ### promises -/
def spTx (K : PySem.W.Frag) (f : Cs → Option PyData) : Sp := fun vs H Q E => ∃ (S : Sit) (w : Cs), S.H = H ∧ Vs K S.G vs [.d (.str (cS w))] ∧ w.length ≤ 10000 ∧ (∀ c ∈ w, c < 128) ∧ (f w = none → ∀ T, Le S T → E (.ref (cE K "BadText")) none T.H) ∧ ∀ d, f w = some d → ∀ v T, Le S T → Da K T.G v d → Q v T.H
def sp_number_in (K : PySem.W.Frag) : Sp := spTx K fun w => (numP w).map PyData.int
def sp_place_in (K : PySem.W.Frag) : Sp := spTx K fun w => (plP w).map eP
def sp_mark_in (K : PySem.W.Frag) : Sp := spTx K fun w => (mkP w).map eM
def eRWF (x : Cs × Wk × List Mk) : PyData := .tuple [.str (cS x.1), eW3 x.2.1, eF x.2.2]
def sp_written (K : PySem.W.Frag) : Sp := fun vs H Q E => ∃ (S : Sit) (r : Cs) (wl : List Int) (fl : List Mk), S.H = H ∧ Vs K S.G vs [.d (.str (cS r)), .d (eW wl), .d (eF fl)] ∧ Sz (cS r) wl fl ∧ (∀ x, bad3 (cS r) wl fl = some x → ∀ T, Le S T → E (.ref (cE K x)) none T.H) ∧ (bad3 (cS r) wl fl = none → ∀ wk, wl = w3 wk → ∀ v T, Le S T → Da K T.G v (.str (cS (wrL r wk fl))) → Q v T.H)
def sp_read (K : PySem.W.Frag) : Sp := fun vs H Q E => ∃ (S : Sit) (t : Cs), S.H = H ∧ Vs K S.G vs [.d (.str (cS t))] ∧ t.length ≤ 5000 ∧ (∀ c ∈ t, c < 128) ∧ (rdP t = none → ∀ T, Le S T → E (.ref (cE K "BadText")) none T.H) ∧ ∀ x, rdP t = some x → ∀ v T, Le S T → Da K T.G v (eRWF x) → Q v T.H
section
variable {K : PySem.W.Frag} {E : XK} {σ : L2.St} {S : Sit} {tr : TA} {w : Cs} {f : Cs → Option PyData}
theorem evr_spTx (ha : EvA K tr σ S [.d (.str (cS w))]) (hl : w.length ≤ 10000) (hc : ∀ c ∈ w, c < 128) : EvR K E (tCall (spTx K f) [] E tr) σ S (f w) := fun T l Q hn hs => ha T l _ fun vs U lU hv => by
  rw [List.append_nil]
  exact ⟨U, w, rfl, hv, hl, hc, fun e W lW => hn e W (lU.trans lW), fun d e v W lW o => hs d e v W (lU.trans lW) o⟩
end
end MW

set_option Elab.async false
set_option linter.all false
set_option maxRecDepth 100000
set_option maxHeartbeats 4000000
namespace MW
open PySem PySem.Spec PyProof.Rows L2
local macro_rules | `(tactic| walk_at "ev") => `(tactic| first
  | (refine ev_var (by assumption) ?_; rfl)
  | (refine ev_varv (by assumption) ?_; rfl)
  | exact ev_ci
  | exact ev_cs
  | exact ev_cb
  | exact ev_cn
  | exact eb_yes
  | exact ea_nil
  | exact ea_d0
  | exact eo_none
  | (apply ea_cons <;> walk_at "ev")
  | (apply eo_some <;> walk_at "ev")
  | (apply ev_I0 <;> walk_at "ev")
  | (apply ev_B0 <;> walk_at "ev")
  | (apply ev_chain <;> walk_at "ev")
  | (apply ev_neg <;> walk_at "ev")
  | (apply ev_lenL <;> walk_at "ev")
  | (apply ev_lenT <;> walk_at "ev")
  | (apply eb_test <;> walk_at "ev")
  | (apply eb_B <;> walk_at "ev")
  | (apply eb_not <;> walk_at "ev")
  | (apply ev_notV <;> walk_at "ev")
  | (apply ev_tup <;> walk_at "ev")
  | (apply ea_ds <;> walk_at "ev")
  | (apply ev_ixT <;> walk_at "ev")
  | (apply ev_ixL <;> walk_at "ev")
  | (apply ev_eqD <;> walk_at "ev")
  | (apply ev_neD <;> walk_at "ev")
  | (apply ev_inS <;> walk_at "ev")
  | (apply ev_isN <;> walk_at "ev")
  | (apply ev_notN <;> walk_at "ev")
  | (apply ev_andV <;> walk_at "ev")
  | (apply ev_orV <;> walk_at "ev")
  | (apply eb_and <;> walk_at "ev")
  | (apply eb_or <;> walk_at "ev")
  | (apply ev_I <;> walk_at "ev")
  | (apply ev_lenS <;> walk_at "ev")
  | (apply ev_all <;> walk_at "ev")
  | (apply ev_any <;> walk_at "ev")
  | (intro _; walk_at "ev")
  | rfl
  | (with_reducible assumption)
  | decide
  | omega)
theorem sc_number_in : FnScope ["word", "figures", "sign"] ["word"] (defScope (top 19)) := ⟨rfl, rfl, rfl, by decide +kernel, rfl, by decide +kernel, by decide +kernel⟩
theorem sc_place_in : FnScope ["word", "parts"] ["word"] (defScope (top 20)) := ⟨rfl, rfl, rfl, by decide +kernel, rfl, by decide +kernel, by decide +kernel⟩
theorem sc_mark_in : FnScope ["word", "parts"] ["word"] (defScope (top 21)) := ⟨rfl, rfl, rfl, by decide +kernel, rfl, by decide +kernel, by decide +kernel⟩
section
variable {P : Program} {w : World} {K : PySem.W.Frag} {mg : Str → Option Value} {base : Heap}
theorem k_number_in (T : Tx K mg) (D : Def K mg "number_in" (top 19)) : FnK P w K mg base 1 "number_in" ["word"] (sp_number_in K) := by
  refine fn_mk D sc_number_in (fun vs H Q E h => ?_) (fun _ _ _ _ _ _ us hl => match us, hl with | [_], _ => rfl) (fun f cdv A outer s H vs Q E hr h => ?_)
  · obtain ⟨S, x, rfl, hv, _⟩ := h
    exact hv.len
  obtain ⟨S, x, rfl, hv, hl, hc, h1, h2⟩ := h
  refine ⟨_, (pss_cons (ps_set (i := 1) sc_number_in.nd rfl (Or.inl rfl) (pe_ifExp (pt_cmpR (kr_eqD (K := K) hr.units) (pe_slice sl_str (pv 0) po_none (po_some pe_int)) pe_str (nomark _)) (pe_slice sl_str (pv 0) (po_some pe_int) po_none) (pv 0)))
      (pss_cons (ps_if (PW.pt (pw_or (pt_not (pt_chain op_le op_le pe_int (pe_callB (kr_len (K := K)) (by rfl) T.len (by decide +kernel) (pa_cons (pv 1) pa_nil)) pe_int)) (pw_or1 (pt_not (pt_val (pe_callB (kr_all (K := K) rfl) (by rfl) T.all (by decide +kernel) (pa_cons (pe_lc (own := [("sign", 2)]) rfl sc_number_in.nd (pi_str (pv 1)) (blkOk_by (N := ["word", "figures", "sign"]) (sc := defScope (top 19)) (by decide +kernel)) (fun _ _ _ _ _ => (pg_name (i := 2) sc_number_in.nd rfl (Or.inl rfl))) (fun _ _ _ _ _ => pts_nil) (fun _ _ _ _ _ => (pe_cmpR op_in_sign (pv 2) (pe_kstr T.FIGURES) (by rfl)))) pa_nil))))))) (pss_one (ps_rz T.BadText rfl rfl rfl rfl rfl)) pss_nil)
      (pss_one (ps_ret (pe_ifExp (pt_cmpR (kr_eqD (K := K) hr.units) (pe_slice sl_str (pv 0) po_none (po_some pe_int)) pe_str (nomark _)) (pe_op op_sub pe_int (pe_callTy call_int_str (by rfl) T.int (by decide +kernel) (pa_cons (pv 1) pa_nil))) (pe_callTy call_int_str (by rfl) T.int (by decide +kernel) (pa_cons (pv 1) pa_nil))))))), ?_⟩
  have hE := Sv.start (N := ["word", "figures", "sign"]) (n := 2) hv rfl
  have tst : ∀ {σ : L2.St} {S : Sit} {δ : List Sl}, Sv K S.G σ δ → δ[0]? = some (.d (.str (cS x))) → EvB K (tTest (tOp (rEqD K) (L2.tSl rSlS (tVar 0) tNoPart (tPart (tC (.int 1)))) (tC (.str "-")))) σ S (decide (x.take 1 = [45])) := fun {σ S δ} hE e => eb_test (ev_is (ev_eqD (ev_is (ev_slS (ev_var hE e) eo_none (eo_some ev_ci) (by rw [cS_len]; omega)) (by rw [cut_toS (by decide)])) (ev_lit lit_minus) ((shp_cs fun c h => hc c (List.mem_of_mem_take h)).to (by decide)) ((shp_cs (by decide)).to (by decide))) (by rw [eqv_cs]; rfl))
  have hfl : (figs x).length ≤ 10000 := by
    unfold figs
    split
    · rw [List.length_drop]; omega
    · exact hl
  refine st_asg (s := .d (.str (cS (figs x)))) hE (ev_if (tst hE rfl) (fun e => ?_) (fun e => ?_)) fun σ1 T1 l1 hE1 => ?_
  · unfold figs
    rw [if_pos (of_decide_eq_true e)]
    exact ev_is (ev_slS (ev_var hE rfl) (eo_some ev_ci) eo_none (by rw [cS_len]; omega)) (by rw [cut_fromS (by decide)]; rfl)
  · unfold figs
    rw [if_neg (of_decide_eq_false e)]
    exact ev_var hE rfl
  clear hE
  dsimp only
  apply st_if (K := K) (b := !((decide (1 ≤ (figs x).length) && decide ((figs x).length ≤ 3)) && (figs x).all isFig))
  case hb =>
    rw [Bool.not_and]
    apply eb_or
    · exact eb_is (eb_not (eb_test (ev_chain ev_ci (ev_lenS (ev_var hE1 rfl) (by rw [cS_len]; omega)) ev_ci))) (by rw [cS_len]; congr 2 <;> simp <;> omega)
    · intro _
      apply eb_not
      apply eb_B
      refine ev_is (ev_all (bs := (figs x).map isFig) ?_) (by simp [List.all_map])
      rw [List.map_map]
      refine ev_lcm hE1 (ei_str (x := cS (figs x)) (ev_var hE1 rfl)) (fun c => [(2, .str ⟨#[c]⟩)]) _ (fun c _ => tg_name) (fun c _ q hq => by simp at hq; subst hq; simp) (fun c _ σ' T l hE' => ?_) (by show (figs x).length ≤ _; omega)
      exact ev_is (ev_inS (ev_var hE' rfl) (ev_lit lit_fig)) rfl
  case h1 =>
    intro e T2 l2
    exact h1 (by show (numP x).map PyData.int = none; unfold numP; rw [if_neg (by rw [not_t e]; decide)]; rfl) T2 (l1.trans l2)
  intro e T2 l2
  have e := not_f e
  have hE2 := hE1.up l2.g
  clear hE1
  dsimp only [tNext]
  have e' := e
  simp only [Bool.and_eq_true, decide_eq_true_eq] at e'
  have hI : ∀ {σ : L2.St} {S : Sit} {δ : List Sl}, Sv K S.G σ δ → δ[1]? = some (.d (.str (cS (figs x)))) → EvD K (tCB rIntS (tCons (tVar 1) tNil)) σ S (.int ((NumText.digitsVal (figs x) : Nat) : Int)) := fun {σ S δ} hE e => ev_intD (ev_var hE e) e'.2 e'.1.1 e'.1.2
  refine st_ret (K := K) (s := .d (.int (if x.take 1 = [45] then 0 - ((NumText.digitsVal (figs x) : Nat) : Int) else ((NumText.digitsVal (figs x) : Nat) : Int)))) (ev_if (tst hE2 rfl) (fun c => ?_) (fun c => ?_)) fun v T3 l3 o => h2 _ (by show (numP x).map PyData.int = some _; unfold numP; rw [if_pos e]; rfl) v T3 ((l1.trans l2).trans l3) o
  · rw [if_pos (of_decide_eq_true c)]
    exact ev_I0 (f := fun i j => i - j) ev_ci (hI hE2 rfl)
  · rw [if_neg (of_decide_eq_false c)]
    exact hI hE2 rfl
theorem k_place_in (T : Tx K mg) (D : Def K mg "place_in" (top 20)) (F_number_in : FnK P w K mg base 1 "number_in" ["word"] (sp_number_in K)) : FnK P w K mg base 2 "place_in" ["word"] (sp_place_in K) := by
  refine fn_mk D sc_place_in (fun vs H Q E h => ?_) (fun _ _ _ _ _ _ us hl => match us, hl with | [_], _ => rfl) (fun f cdv A outer s H vs Q E hr h => ?_)
  · obtain ⟨S, x, rfl, hv, _⟩ := h
    exact hv.len
  obtain ⟨S, x, rfl, hv, hl, hc, h1, h2⟩ := h
  refine ⟨_, (pss_cons (ps_set (i := 1) sc_place_in.nd rfl (Or.inl rfl) (pe_split (pv 0) pe_str))
      (pss_cons (ps_if (pt_cmpR (kr_neD (K := K) hr.units) (pe_callB (kr_len (K := K)) (by rfl) T.len (by decide +kernel) (pa_cons (pv 1) pa_nil)) pe_int (nomark _)) (pss_one (ps_rz T.BadText rfl rfl rfl rfl rfl)) pss_nil)
      (pss_one (ps_ret (pe_tup (pa_cons (pe_fn F_number_in (hr.mono (by decide)) (passes_call (takes_of rfl rfl rfl rfl) (fun _ _ _ _ h => h)) (pa_cons (pe_ix (kx_list (K := K)) (pv 1) pe_int (fun _ _ => rfl)) pa_nil)) (pa_cons (pe_fn F_number_in (hr.mono (by decide)) (passes_call (takes_of rfl rfl rfl rfl) (fun _ _ _ _ h => h)) (pa_cons (pe_ix (kx_list (K := K)) (pv 1) pe_int (fun _ _ => rfl)) pa_nil)) pa_nil))))))), ?_⟩
  have hE := Sv.start (N := ["word", "parts"]) (n := 1) hv rfl
  refine st_asg (s := .d (eTs (spC 44 x))) hE (ev_split (ev_var hE rfl) (ev_lit lit_comma) (by decide) (by omega)) fun σ1 T1 l1 hE1 => ?_
  clear hE
  dsimp only
  apply st_if (K := K) (b := !decide ((spC 44 x).length = 2))
  case hb => exact eb_test (ev_is (ev_neD (ev_lenL (ds := (spC 44 x).map fun p => .str (cS p)) (ev_var hE1 rfl)) ev_ci rfl rfl) (by rw [eqv_ints, List.length_map]; congr 2; exact decide_eq_decide.mpr (by omega)))
  case h1 =>
    intro e T2 l2
    refine h1 ?_ T2 (l1.trans l2)
    have e : ¬ (spC 44 x).length = 2 := by simpa using e
    show (plP x).map eP = none
    unfold plP
    rw [two_none e]
    rfl
  intro e T2 l2
  have e : (spC 44 x).length = 2 := by simpa using e
  obtain ⟨a, b, hab⟩ := len_two e
  have hE2 := hE1.up l2.g
  clear hE1
  dsimp only [tNext]
  have ma := spC_mem (c := 44) (w := x) (p := a) (by rw [hab]; simp)
  have mb := spC_mem (c := 44) (w := x) (p := b) (by rw [hab]; simp)
  have ix : ∀ {i : Int} {p : Cs}, L2.atI ([a, b].map fun p => PyData.str (cS p)) i = some (.str (cS p)) → L2.atI ((spC 44 x).map fun p => PyData.str (cS p)) i = some (.str (cS p)) := fun {i p} h => by rw [hab]; exact h
  have hp := plP_of hab
  exact st_retR (evr_is (evr_tup2 (x := numP a) (y := numP b) (evr_spTx (w := a) (ea_cons (ev_ixL (ds := (spC 44 x).map fun p => .str (cS p)) (ev_var hE2 rfl) ev_ci (ix rfl)) ea_nil) (by omega) (fun c h => hc c (ma.1 c h))) (evr_spTx (w := b) (ea_cons (ev_ixL (ds := (spC 44 x).map fun p => .str (cS p)) (ev_var hE2 rfl) ev_ci (ix rfl)) ea_nil) (by omega) (fun c h => hc c (mb.1 c h)))) (by rw [← hp])) (fun e T3 l3 => h1 e T3 ((l1.trans l2).trans l3)) fun d e v T3 l3 o => h2 d e v T3 ((l1.trans l2).trans l3) o
theorem k_mark_in (T : Tx K mg) (D : Def K mg "mark_in" (top 21)) (F_place_in : FnK P w K mg base 2 "place_in" ["word"] (sp_place_in K)) (F_number_in : FnK P w K mg base 1 "number_in" ["word"] (sp_number_in K)) : FnK P w K mg base 3 "mark_in" ["word"] (sp_mark_in K) := by
  refine fn_mk D sc_mark_in (fun vs H Q E h => ?_) (fun _ _ _ _ _ _ us hl => match us, hl with | [_], _ => rfl) (fun f cdv A outer s H vs Q E hr h => ?_)
  · obtain ⟨S, x, rfl, hv, _⟩ := h
    exact hv.len
  obtain ⟨S, x, rfl, hv, hl, hc, h1, h2⟩ := h
  refine ⟨_, (pss_cons (ps_set (i := 1) sc_mark_in.nd rfl (Or.inl rfl) (pe_split (pv 0) pe_str))
      (pss_cons (ps_if (pt_cmpR (kr_neD (K := K) hr.units) (pe_callB (kr_len (K := K)) (by rfl) T.len (by decide +kernel) (pa_cons (pv 1) pa_nil)) pe_int (nomark _)) (pss_one (ps_rz T.BadText rfl rfl rfl rfl rfl)) pss_nil)
      (pss_one (ps_ret (pe_op (kr_catT (K := K)) (pe_fn F_place_in (hr.mono (by decide)) (passes_call (takes_of rfl rfl rfl rfl) (fun _ _ _ _ h => h)) (pa_cons (pe_ix (kx_list (K := K)) (pv 1) pe_int (fun _ _ => rfl)) pa_nil)) (pe_tup (pa_cons (pe_fn F_number_in (hr.mono (by decide)) (passes_call (takes_of rfl rfl rfl rfl) (fun _ _ _ _ h => h)) (pa_cons (pe_ix (kx_list (K := K)) (pv 1) pe_int (fun _ _ => rfl)) pa_nil)) pa_nil))))))), ?_⟩
  have hE := Sv.start (N := ["word", "parts"]) (n := 1) hv rfl
  refine st_asg (s := .d (eTs (spC 58 x))) hE (ev_split (ev_var hE rfl) (ev_lit lit_colon) (by decide) (by omega)) fun σ1 T1 l1 hE1 => ?_
  clear hE
  dsimp only
  apply st_if (K := K) (b := !decide ((spC 58 x).length = 2))
  case hb => exact eb_test (ev_is (ev_neD (ev_lenL (ds := (spC 58 x).map fun p => .str (cS p)) (ev_var hE1 rfl)) ev_ci rfl rfl) (by rw [eqv_ints, List.length_map]; congr 2; exact decide_eq_decide.mpr (by omega)))
  case h1 =>
    intro e T2 l2
    refine h1 ?_ T2 (l1.trans l2)
    have e : ¬ (spC 58 x).length = 2 := by simpa using e
    show (mkP x).map eM = none
    unfold mkP
    rw [two_none e]
    rfl
  intro e T2 l2
  have e : (spC 58 x).length = 2 := by simpa using e
  obtain ⟨a, b, hab⟩ := len_two e
  have hE2 := hE1.up l2.g
  clear hE1
  dsimp only [tNext]
  have ma := spC_mem (c := 58) (w := x) (p := a) (by rw [hab]; simp)
  have mb := spC_mem (c := 58) (w := x) (p := b) (by rw [hab]; simp)
  have ix : ∀ {i : Int} {p : Cs}, L2.atI ([a, b].map fun p => PyData.str (cS p)) i = some (.str (cS p)) → L2.atI ((spC 58 x).map fun p => PyData.str (cS p)) i = some (.str (cS p)) := fun {i p} h => by rw [hab]; exact h
  have hp := mkP_of hab
  exact st_retR (evr_is (evr_cat1 (p := plP a) (c := numP b) (evr_spTx (w := a) (ea_cons (ev_ixL (ds := (spC 58 x).map fun p => .str (cS p)) (ev_var hE2 rfl) ev_ci (ix rfl)) ea_nil) (by omega) (fun c h => hc c (ma.1 c h))) (evr_spTx (w := b) (ea_cons (ev_ixL (ds := (spC 58 x).map fun p => .str (cS p)) (ev_var hE2 rfl) ev_ci (ix rfl)) ea_nil) (by omega) (fun c h => hc c (mb.1 c h)))) (by rw [← hp])) (fun e T3 l3 => h1 e T3 ((l1.trans l2).trans l3)) fun d e v T3 l3 o => h2 d e v T3 ((l1.trans l2).trans l3) o
end

end MW

set_option Elab.async false
set_option linter.all false
set_option maxRecDepth 100000
set_option maxHeartbeats 4000000
namespace MW
open PySem PySem.Spec PyProof.Rows L2
set_option autoImplicit false
/-! ### several walkers, plainly -/
def flS (r : Str) : Dd Int → List Wk → Dd Int × List Wk
  | D, [] => (D, [])
  | D, w :: ws => ((flS r (goD r D w) ws).1, goW r D w :: (flS r (goD r D w) ws).2)
def flT (r : Str) : Dd Int → List Wk → Dd Int × List Wk
  | D, [] => (D, [])
  | D, w :: ws => ((flT r (bkD r D w) ws).1, bkW r D w :: (flT r (bkD r D w) ws).2)
def flB (r : Str) (D : Dd Int) (ws : List Wk) : Dd Int × List Wk := ((flT r D ws.reverse).1, (flT r D ws.reverse).2.reverse)
theorem flS_len (r : Str) : ∀ (D : Dd Int) (ws : List Wk), (flS r D ws).2.length = ws.length
  | _, [] => rfl
  | D, w :: ws => by
    show (goW r D w :: (flS r (goD r D w) ws).2).length = _
    rw [List.length_cons, flS_len, List.length_cons]
theorem flT_len (r : Str) : ∀ (D : Dd Int) (ws : List Wk), (flT r D ws).2.length = ws.length
  | _, [] => rfl
  | D, w :: ws => by
    show (bkW r D w :: (flT r (bkD r D w) ws).2).length = _
    rw [List.length_cons, flT_len, List.length_cons]
theorem flB_len (r : Str) (D : Dd Int) (ws : List Wk) : (flB r D ws).2.length = ws.length := by
  show (flT r D ws.reverse).2.reverse.length = _
  rw [List.length_reverse, flT_len, List.length_reverse]
theorem flS_app (r : Str) : ∀ (D : Dd Int) (us : List Wk) (w : Wk), flS r D (us ++ [w]) = (goD r (flS r D us).1 w, (flS r D us).2 ++ [goW r (flS r D us).1 w])
  | _, [], _ => rfl
  | D, u :: us, w => by
    show ((flS r (goD r D u) (us ++ [w])).1, goW r D u :: (flS r (goD r D u) (us ++ [w])).2) = _
    rw [flS_app]
    rfl
theorem flT_app (r : Str) : ∀ (D : Dd Int) (us : List Wk) (w : Wk), flT r D (us ++ [w]) = (bkD r (flT r D us).1 w, (flT r D us).2 ++ [bkW r (flT r D us).1 w])
  | _, [], _ => rfl
  | D, u :: us, w => by
    show ((flT r (bkD r D u) (us ++ [w])).1, bkW r D u :: (flT r (bkD r D u) (us ++ [w])).2) = _
    rw [flT_app]
    rfl
def Hds (ws : List Wk) : Prop := ∀ w ∈ ws, 0 ≤ w.2.2 ∧ w.2.2 < 4
theorem goW_h (r : Str) (D : Dd Int) (w : Wk) : 0 ≤ (goW r D w).2.2 ∧ (goW r D w).2.2 < 4 := ⟨Int.emod_nonneg _ (by decide), Int.emod_lt_of_pos _ (by decide)⟩
theorem bkW_h (r : Str) (D : Dd Int) (w : Wk) : 0 ≤ (bkW r D w).2.2 ∧ (bkW r D w).2.2 < 4 := ⟨Int.emod_nonneg _ (by decide), Int.emod_lt_of_pos _ (by decide)⟩
theorem flS_h (r : Str) : ∀ (D : Dd Int) (ws : List Wk), Hds (flS r D ws).2
  | _, [] => fun _ h => nomatch h
  | D, w :: ws => fun x hx => by
    rcases List.mem_cons.mp hx with rfl | hx
    · exact goW_h r D w
    · exact flS_h r (goD r D w) ws x hx
theorem flT_h (r : Str) : ∀ (D : Dd Int) (ws : List Wk), Hds (flT r D ws).2
  | _, [] => fun _ h => nomatch h
  | D, w :: ws => fun x hx => by
    rcases List.mem_cons.mp hx with rfl | hx
    · exact bkW_h r D w
    · exact flT_h r (bkD r D w) ws x hx
theorem flB_h (r : Str) (D : Dd Int) (ws : List Wk) : Hds (flB r D ws).2 := fun w hw => flT_h r D ws.reverse w (List.mem_reverse.mp hw)
theorem Hds.rev {ws : List Wk} (h : Hds ws) : Hds ws.reverse := fun w hw => h w (List.mem_reverse.mp hw)
theorem flS_ok {r : Str} (hr : 2 ≤ r.length) : ∀ {D : Dd Int} {m : Nat} (ws : List Wk), Okc r D m → Okc r (flS r D ws).1 (m + ws.length)
  | _, _, [], h => h
  | D, m, w :: ws, h => by
    have z := flS_ok hr ws (h.go hr w)
    rw [show m + (w :: ws).length = m + 1 + ws.length by simp; omega]
    exact z
theorem flT_ok {r : Str} (hr : 2 ≤ r.length) : ∀ {D : Dd Int} {m : Nat} (ws : List Wk), Okc r D m → Okc r (flT r D ws).1 (m + ws.length)
  | _, _, [], h => h
  | D, m, w :: ws, h => by
    have z := flT_ok hr ws (h.back hr w)
    rw [show m + (w :: ws).length = m + 1 + ws.length by simp; omega]
    exact z
theorem flB_ok {r : Str} (hr : 2 ≤ r.length) {D : Dd Int} {m : Nat} (ws : List Wk) (h : Okc r D m) : Okc r (flB r D ws).1 (m + ws.length) := by
  have z := flT_ok hr ws.reverse h
  rw [List.length_reverse] at z
  exact z
theorem flS_eq {r : Str} : ∀ {D D' : Dd Int} (ws : List Wk), Eqd D D' → Eqd (flS r D ws).1 (flS r D' ws).1 ∧ (flS r D ws).2 = (flS r D' ws).2
  | _, _, [], h => ⟨h, rfl⟩
  | D, D', w :: ws, h => by
    obtain ⟨a, b⟩ := flS_eq ws (goD_eq h w)
    refine ⟨a, ?_⟩
    show goW r D w :: _ = goW r D' w :: _
    rw [goW_eq h, b]
theorem flT_eq {r : Str} : ∀ {D D' : Dd Int} (ws : List Wk), Eqd D D' → Eqd (flT r D ws).1 (flT r D' ws).1 ∧ (flT r D ws).2 = (flT r D' ws).2
  | _, _, [], h => ⟨h, rfl⟩
  | D, D', w :: ws, h => by
    obtain ⟨a, b⟩ := flT_eq ws (bkD_eq h w)
    refine ⟨a, ?_⟩
    show bkW r D w :: _ = bkW r D' w :: _
    rw [bkW_eq h, b]
/-- back behind a round -/
theorem flB_flS {r : Str} (hr : 2 ≤ r.length) {D : Dd Int} {m : Nat} (ok : Okc r D m) : ∀ {us ws : List Wk}, us.reverse = ws → Hds us → Eqd (flB r (flS r D ws).1 (flS r D ws).2).1 D ∧ (flB r (flS r D ws).1 (flS r D ws).2).2 = ws
  | [], ws, e, _ => by
    subst e
    exact ⟨fun _ => rfl, rfl⟩
  | u :: us, ws, e, hh => by
    have e2 : ws = us.reverse ++ [u] := by rw [← e, List.reverse_cons]
    subst e2
    obtain ⟨a, b⟩ := flB_flS hr ok (us := us) rfl fun w hw => hh w (by simp [hw])
    have ok1 := flS_ok hr us.reverse ok
    obtain ⟨c, d⟩ := back_go_id hr ok1.cl (wk := u) (hh u (by simp))
    rw [flS_app]
    unfold flB at a b ⊢
    simp only [List.reverse_append, List.reverse_cons, List.reverse_nil, List.nil_append, List.cons_append] at a b ⊢
    show Eqd (flT r (bkD r _ _) _).1 D ∧ (bkW r _ _ :: (flT r (bkD r _ _) _).2).reverse = _
    obtain ⟨f, g⟩ := flT_eq (flS r D us.reverse).2.reverse c
    refine ⟨f.trans a, ?_⟩
    rw [List.reverse_cons, g, b, d]
/-- a round behind back -/
theorem flS_flT {r : Str} (hr : 2 ≤ r.length) : ∀ {ws : List Wk} {D : Dd Int} {m : Nat}, Okc r D m → Hds ws → Eqd (flS r (flT r D ws).1 (flT r D ws).2.reverse).1 D ∧ (flS r (flT r D ws).1 (flT r D ws).2.reverse).2 = ws.reverse
  | [], D, m, _, _ => ⟨fun _ => rfl, rfl⟩
  | w :: ws, D, m, ok, hh => by
    obtain ⟨a, b⟩ := flS_flT hr (ws := ws) (ok.back hr w) fun x hx => hh x (by simp [hx])
    obtain ⟨c, d⟩ := go_back_id hr ok.cl (wk := w) (hh w (by simp))
    show Eqd (flS r (flT r (bkD r D w) ws).1 (bkW r D w :: (flT r (bkD r D w) ws).2).reverse).1 D ∧ (flS r (flT r (bkD r D w) ws).1 (bkW r D w :: (flT r (bkD r D w) ws).2).reverse).2 = _
    rw [List.reverse_cons, flS_app, List.reverse_cons]
    refine ⟨((goD_eq a _).trans c), ?_⟩
    show (flS r (flT r (bkD r D w) ws).1 (flT r (bkD r D w) ws).2.reverse).2 ++ [goW r _ _] = _
    rw [b, goW_eq a, d]
theorem flS_flB {r : Str} (hr : 2 ≤ r.length) {ws : List Wk} {D : Dd Int} {m : Nat} (ok : Okc r D m) (hh : Hds ws) : Eqd (flS r (flB r D ws).1 (flB r D ws).2).1 D ∧ (flS r (flB r D ws).1 (flB r D ws).2).2 = ws := by
  have z := flS_flT hr (ws := ws.reverse) ok hh.rev
  rw [List.reverse_reverse] at z
  exact z
abbrev Fs := Dd Int × List Wk
def itF (r : Str) (s : Fs) : Nat → Fs
  | 0 => s
  | n + 1 => flS r (itF r s n).1 (itF r s n).2
def itR (r : Str) (s : Fs) : Nat → Fs
  | 0 => s
  | n + 1 => flB r (itR r s n).1 (itR r s n).2
def Eqf (a b : Fs) : Prop := Eqd a.1 b.1 ∧ a.2 = b.2
theorem Eqf.trans {a b c : Fs} (h : Eqf a b) (k : Eqf b c) : Eqf a c := ⟨h.1.trans k.1, h.2.trans k.2⟩
theorem itF_eq {r : Str} {s s' : Fs} (h : Eqf s s') : ∀ n, Eqf (itF r s n) (itF r s' n)
  | 0 => h
  | n + 1 => by
    obtain ⟨a, b⟩ := itF_eq h n
    show Eqf (flS r _ _) (flS r _ _)
    rw [b]
    exact flS_eq _ a
theorem itR_eq {r : Str} {s s' : Fs} (h : Eqf s s') : ∀ n, Eqf (itR r s n) (itR r s' n)
  | 0 => h
  | n + 1 => by
    obtain ⟨a, b⟩ := itR_eq h n
    show Eqf (flB r _ _) (flB r _ _)
    rw [b]
    obtain ⟨c, d⟩ := flT_eq (r := r) (itR r s' n).2.reverse a
    exact ⟨c, congrArg List.reverse d⟩
theorem itF_len (r : Str) (s : Fs) : ∀ n, (itF r s n).2.length = s.2.length
  | 0 => rfl
  | n + 1 => (flS_len r _ _).trans (itF_len r s n)
theorem itR_len (r : Str) (s : Fs) : ∀ n, (itR r s n).2.length = s.2.length
  | 0 => rfl
  | n + 1 => (flB_len r _ _).trans (itR_len r s n)
theorem itF_h {r : Str} {s : Fs} (h : Hds s.2) : ∀ n, Hds (itF r s n).2
  | 0 => h
  | n + 1 => flS_h r _ _
theorem itR_h {r : Str} {s : Fs} (h : Hds s.2) : ∀ n, Hds (itR r s n).2
  | 0 => h
  | n + 1 => flB_h r _ _
theorem itF_ok {r : Str} (hr : 2 ≤ r.length) {s : Fs} {m : Nat} (h : Okc r s.1 m) : ∀ n, Okc r (itF r s n).1 (m + n * s.2.length)
  | 0 => by rw [Nat.zero_mul]; exact h
  | n + 1 => by
    have z := flS_ok hr (itF r s n).2 (itF_ok hr h n)
    rw [itF_len] at z
    rw [Nat.succ_mul, ← Nat.add_assoc]
    exact z
theorem itR_ok {r : Str} (hr : 2 ≤ r.length) {s : Fs} {m : Nat} (h : Okc r s.1 m) : ∀ n, Okc r (itR r s n).1 (m + n * s.2.length)
  | 0 => by rw [Nat.zero_mul]; exact h
  | n + 1 => by
    have z := flB_ok hr (itR r s n).2 (itR_ok hr h n)
    rw [itR_len] at z
    rw [Nat.succ_mul, ← Nat.add_assoc]
    exact z
theorem itF_shift (r : Str) (s : Fs) : ∀ n, itF r s (n + 1) = itF r (flS r s.1 s.2) n
  | 0 => rfl
  | n + 1 => by
    have z := itF_shift r s n
    show flS r (itF r s (n + 1)).1 (itF r s (n + 1)).2 = _
    rw [z]
    rfl
theorem itR_shift (r : Str) (s : Fs) : ∀ n, itR r s (n + 1) = itR r (flB r s.1 s.2) n
  | 0 => rfl
  | n + 1 => by
    have z := itR_shift r s n
    show flB r (itR r s (n + 1)).1 (itR r s (n + 1)).2 = _
    rw [z]
    rfl
theorem fl_forth {r : Str} {s : Fs} {m : Nat} (hr : 2 ≤ r.length) (ok : Okc r s.1 m) (hh : Hds s.2) : ∀ n, Eqf (itF r (itR r s n) n) s
  | 0 => ⟨fun _ => rfl, rfl⟩
  | n + 1 => by
    rw [itF_shift]
    have z := flS_flB hr (ws := (itR r s n).2) (itR_ok hr ok n) (itR_h hh n)
    exact (itF_eq (s := flS r (itR r s (n + 1)).1 (itR r s (n + 1)).2) (s' := itR r s n) z n).trans (fl_forth hr ok hh n)
theorem fl_back {r : Str} {s : Fs} {m : Nat} (hr : 2 ≤ r.length) (ok : Okc r s.1 m) (hh : Hds s.2) : ∀ n, Eqf (itR r (itF r s n) n) s
  | 0 => ⟨fun _ => rfl, rfl⟩
  | n + 1 => by
    rw [itR_shift]
    have z := flB_flS hr (itF_ok hr ok n) (us := (itF r s n).2.reverse) (ws := (itF r s n).2) (List.reverse_reverse _) (itF_h hh n).rev
    exact (itR_eq (s := flB r (itF r s (n + 1)).1 (itF r s (n + 1)).2) (s' := itF r s n) z n).trans (fl_back hr ok hh n)
/-- one alone -/
theorem fl_one (r : Str) (D : Dd Int) (w : Wk) : ∀ n, itF r (D, [w]) n = ((itG r (D, w) n).1, [(itG r (D, w) n).2])
  | 0 => rfl
  | n + 1 => by
    show flS r (itF r (D, [w]) n).1 (itF r (D, [w]) n).2 = _
    rw [fl_one r D w n]
    rfl
/-! ### a round within a list -/
section
variable {K : PySem.W.Frag} {σ : L2.St} {S : Sit} {δ : List Sl} {te : TE} {q : Addr}
theorem em_lc {α : Type} {xs : List α} {enc : α → PyData} {wi : TI} {g : TG} {vs : List Nat} (hE : Sv K S.G σ δ) (hi : EvI K wi σ S (xs.map enc)) (tgs : α → List (Nat × PyData)) (st : Nat → Dd Int × List PyData) (h0 : (st 0).2 = []) (hD : Dc S q (st 0).1)
    (hg : ∀ x ∈ xs, Tg K g (enc x) (tgs x)) (hv : ∀ x ∈ xs, ∀ z ∈ tgs x, z.1 ∈ vs)
    (he : ∀ i x, xs[i]? = some x → ∃ d, (st (i + 1)).2 = (st i).2 ++ [d] ∧ (st i).2.length = i ∧ ∀ σ' T, Lm [q] S T → Dc T q (st i).1 → Sv K T.G σ' (putD (vs.foldr (fun i δ => δ.set i .non) δ) (tgs x)) → EvM K te σ' T q (st (i + 1)).1 d) (hn : xs.length ≤ 800000)
    (Q : VK) (k : ∀ p U, Lm [q] S U → Nw S p → Dc U q (st xs.length).1 → Ow K U p (st xs.length).2 → Q (.ref p) U.H) : tLc wi g tYes te vs σ S.H Q :=
  hi S (Le.refl S) _ fun J U l hJ X hX => by
    have dU := hD.up l
    have nt : q ≠ X := fun z => by obtain ⟨o, ho⟩ := dU.has; rw [z, hX] at ho; cases ho
    have hlen : (xs.map enc).length = xs.length := List.length_map _
    let I : Nat → Hp → Prop := fun i H => ∃ (T : Sit) (acc : List V), T.H = H ∧ Lm [q] U T ∧ Dc T q (st i).1 ∧ T.G X = none ∧ H X = some (.lst acc) ∧ DaAll K T.G acc (st i).2
    refine ⟨fun i m H => m = xs.length - i ∧ i ≤ xs.length ∧ I i H, ⟨xs.length, by simp, Nat.zero_le _, U.pushM X _ hX, [], rfl, (U.pushM_le hX).lm _, dU.up (U.pushM_le hX), U.gfree hX, upd_same, by rw [h0]; exact .nil⟩, ?_⟩
    rintro i m H ⟨rfl, hile, T, acc, rfl, lU, dT, gX, eX, dX⟩
    obtain ⟨j1, j2, j3⟩ := hJ T lU.g
    by_cases hlt : i < xs.length
    · have hget : (xs.map enc)[i]? = some (enc xs[i]) := by rw [List.getElem?_map, List.getElem?_eq_getElem hlt]; rfl
      have hmem : xs[i] ∈ xs := List.getElem_mem hlt
      obtain ⟨d, e1, e2, hev⟩ := he i xs[i] (List.getElem?_eq_getElem hlt)
      refine .inr ⟨j1 i (by rw [hlen]; exact hlt), I (i + 1), fun H' hN => ⟨xs.length - (i + 1), by omega, rfl, hlt, hN⟩, fun x H' hy => ?_⟩
      obtain ⟨e, hx⟩ := j3 i _ x H' hget hy
      subst e
      refine hg _ hmem x _ T _ hx fun σ' h1 h2 => ⟨(h2 vs (hv _ hmem)).trans ?_, ?_⟩
      · have idem : ∀ (ws : List Nat) (τ : L2.St), (∀ w ∈ ws, w ∈ vs) → wipe (wipe τ ws) vs = wipe τ vs := by
          intro ws
          induction ws with
          | nil => intro τ _; rfl
          | cons w ws ih =>
            intro τ hw
            show wipe ((wipe τ ws).set w none) vs = wipe τ vs
            rw [wipe_set (hw w (by simp)), ih τ fun z hz => hw z (by simp [hz])]
        exact idem vs σ fun w hw => hw
      · have lST : Lm [q] S T := l.tM lU fun x hx => by simp at hx; subst hx; exact dU.has
        have hE' : Sv K T.G σ' (putD (vs.foldr (fun i δ => δ.set i .non) δ) (tgs xs[i])) := h1 _ ((hE.up lST.g).wipe vs)
        refine iteT (B := I (i + 1) T.H) ?_
        refine hev σ' T lST dT hE' T (Le.refl T) _ fun y W lW dW oW => ?_
        have gXW : W.G X = none := (lW.2.2 X _ eX).trans gX
        have eXW : W.H X = some (.lst acc) := lW.2.1 X _ (by simp [Ne.symm nt]) eX
        have lUW : Lm [q] U W := by
          refine ⟨lU.1.trans lW.1, fun x o hx h => lW.2.1 x o hx (lU.2.1 x o hx h), fun x o h => ?_⟩
          by_cases e : x = q
          · subst e
            obtain ⟨o', h'⟩ := dT.has
            exact (lW.2.2 x o' h').trans (lU.2.2 x o h)
          · exact (lW.2.2 x o (lU.2.1 x o (by simp [e]) h)).trans (lU.2.2 x o h)
        have hacc : acc.length ≤ 800000 := by rw [dX.length, e2]; omega
        refine ⟨acc, eXW, szl (by omega), W.mut X _ gXW, acc ++ [y], rfl, ⟨lUW.1, fun b o hn hb => ?_, lUW.2.2⟩, ⟨dW.1, ?_⟩, gXW, upd_same, ?_⟩
        · show upd W.H X _ b = some o
          have nb : b ≠ X := fun z => by rw [z, hX] at hb; cases hb
          rw [upd_ne nb]
          exact lUW.2.1 b o hn hb
        · show upd W.H X _ q = _
          rw [upd_ne nt]
          exact dW.2
        · rw [e1]
          exact (DaAll.up lW.g dX).append (.cons oW .nil)
    · have e : i = xs.length := by omega
      subst e
      refine .inl ⟨by rw [hlen] at j2; exact j2, ?_⟩
      refine k X T (l.tM lU fun x hx => by simp at hx; subst hx; exact dU.has) (Nw.back l (Nw.of hX)) dT ⟨gX, acc, eX, dX⟩
end
end MW

set_option Elab.async false
set_option linter.all false
set_option maxRecDepth 100000
set_option maxHeartbeats 4000000
namespace MW
open PySem PySem.Spec PyProof.Rows L2
set_option autoImplicit false
def eWs (wls : List (List Int)) : PyData := .list (wls.map eW)
def eWk (ws : List Wk) : PyData := .list (ws.map eW3)
theorem eWs_wk (ws : List Wk) : eWs (ws.map w3) = eWk ws := by
  unfold eWs eWk
  rw [List.map_map]
  rfl
def badF (r : Str) (wls : List (List Int)) (fl : List Mk) (n most : Int) : Option Str := if ruleOk r = false then some "BadRule" else if (decide (1 ≤ wls.length) && decide (wls.length ≤ 6)) = false then some "BadWalker" else if wls.all wOk = false then some "BadWalker" else if floorOk r.length fl = false then some "BadFloor" else if mOk n most = false then some "BadNumber" else none
def SzF (r : Str) (wls : List (List Int)) (fl : List Mk) : Prop := r.length ≤ 10000 ∧ wls.length ≤ 1000 ∧ (∀ w ∈ wls, w.length ≤ 1000) ∧ fl.length ≤ 1000
def sp_look_flock (K : PySem.W.Frag) : Sp := fun vs H Q E => ∃ (S : Sit) (r : Str) (wls : List (List Int)) (fl : List Mk) (n most : Int), S.H = H ∧ Vs K S.G vs [.d (.str r), .d (eWs wls), .d (eF fl), .d (.int n), .d (.int most)] ∧ SzF r wls fl ∧ (badF r wls fl n most = none → ∀ T, Le S T → Q .non T.H) ∧ ∀ x, badF r wls fl n most = some x → ∀ T, Le S T → E (.ref (cE K x)) none T.H
abbrev AnsF := PySem.W.Frag → Str → List Mk → List Wk → Nat → Sit → VK → Prop
def sp_fask (most : Int) (F : AnsF) (K : PySem.W.Frag) : Sp := fun vs H Q E => ∃ (S : Sit) (r : Str) (wls : List (List Int)) (fl : List Mk) (n : Int), S.H = H ∧ Vs K S.G vs [.d (.str r), .d (eWs wls), .d (eF fl), .d (.int n)] ∧ SzF r wls fl ∧
  (∀ x, badF r wls fl n most = some x → ∀ T, Le S T → E (.ref (cE K x)) none T.H) ∧ (badF r wls fl n most = none → ∀ ws, wls = ws.map w3 → F K r fl ws n.toNat S Q)
/-- a pair of two new lists -/
def NewQ (K : PySem.W.Frag) (S : Sit) (ds es : List PyData) (Q : VK) : Prop := ∀ tp p q T, Le S T → Nw S p → Nw S q → p ≠ q → T.G tp = some (.tup [.ref p, .ref q]) → Ow K T p ds → Ow K T q es → Q (.ref tp) T.H
section
variable {K : PySem.W.Frag} {S T : Sit} {ds es : List PyData} {Q : VK} {σ : L2.St} {ta tb : TE} {D : Ends}
theorem NewQ.of (h : ∀ v T, Le S T → Da K T.G v (.tuple [.list ds, .list es]) → Q v T.H) : NewQ K S ds es Q := fun tp p q T l np nq ne et op oq => by
  obtain ⟨T1, a1, a2, a3, a4⟩ := op.give
  have oq1 := oq.keepG a1 a2 a4 (Ne.symm ne)
  have l1 := l.keepG a1 a2 a4 np.none
  obtain ⟨T2, b1, b2, b3, b4⟩ := oq1.give
  rw [← a1, ← b1]
  exact h (.ref tp) T2 (l1.keepG b1 b2 b4 nq.none) (Da.tup (b2 _ _ (a2 _ _ et)) (.cons (Da.up b2 a3) (.cons b3 .nil)))
theorem NewQ.le (h : NewQ K S ds es Q) (l : Le S T) : NewQ K T ds es Q := fun tp p q U lU np nq ne e o1 o2 => h tp p q U (l.trans lU) (np.back l) (nq.back l) ne e o1 o2
theorem st_retQ (h1 : EvF K ta σ S ds) (h2 : EvF K tb σ S es) (k : NewQ K S ds es D.rt) : tRet (tTup (tCons ta (tCons tb tNil))) D σ S.H := h1 S (Le.refl S) _ fun p U l np op => h2 U l _ fun q W lW nq oq => by
  obtain ⟨o, ho⟩ := op.has
  have ne : p ≠ q := nq p o ho
  refine ⟨sz (by show 2 ≤ _; decide), fun tp htp => k tp p q (W.push tp (.tup [.ref p, .ref q]) htp) ((l.trans lW).trans (W.push_le htp)) np (Nw.back l nq) ne upd_same ((op.up lW).up (W.push_le htp)) (oq.up (W.push_le htp))⟩
theorem evf_lstOf (ha : EvD K ta σ S (.list ds)) : EvF K (tCB (rLstOf K) (tCons ta tNil)) σ S ds := fun T l Q q => ha T l _ fun v U lU o => by
  obtain ⟨a, xs, rfl, h1, h2⟩ := Da.lst_eq o
  exact ⟨a, xs, rfl, .inl (SqL.of (U.sub _ _ h1)), fun p hp => q p (U.pushM p (.lst xs) hp) (lU.trans (U.pushM_le hp)) (fresh_le lU hp) ⟨U.gfree hp, xs, upd_same, h2⟩⟩
theorem kr_revL {X : Cx} {e : Expr} {te : TE} {k : Nat} {p1 p2 p3 pos : Pos} (he : PE X e te) (hK : X.K = K := by rfl) : PE X (.Subscript e (.Slice none none (some (.UnaryOp .USub (.Constant (.int 1) k p1) p2)) p3) pos) (tRevL K te) := hK ▸ pe_revL he
theorem DaAll.rev {G : Hp} : ∀ {xs : List V} {ds : List PyData}, DaAll K G xs ds → DaAll K G xs.reverse ds.reverse
  | [], _, h => by cases h; exact .nil
  | _ :: _, _, h => by
    cases h with
    | cons a b => rw [List.reverse_cons, List.reverse_cons]; exact (DaAll.rev b).append (.cons a .nil)
theorem ev_revL (ha : EvD K ta σ S (.list ds)) : EvD K (tRevL K ta) σ S (.list ds.reverse) := fun T l Q q => ha T l _ fun v U lU o => by
  obtain ⟨a, xs, rfl, h1, h2⟩ := Da.lst_eq o
  exact ⟨a, xs, rfl, SqL.of (U.sub _ _ h1), fun p hp => q (.ref p) (U.push p (.lst xs.reverse) hp) (lU.trans (U.push_le hp)) (Da.lst upd_same (DaAll.up (U.push_le hp).g h2.rev))⟩
end
/-! ### the answers -/
def ansFR (it : Str → Fs → Nat → Fs) : AnsF := fun K r fl ws n S Q => NewQ K S ((it r (marksD fl, ws) n).2.map eW3) ((toldL (it r (marksD fl, ws) n).1).map eM) Q
def rowAt (k : Nat) (ws : List Wk) (i : Nat) : List Mk := ((List.range (ws.length - (i + 1))).filter fun t => decide ((ws[i + 1 + t]?).map plW = (ws[i]?).map plW)).map fun t => (((k : Nat) : Int), ((i : Nat) : Int), ((i : Nat) : Int) + 1 + ((t : Nat) : Int))
def metAt (k : Nat) (ws : List Wk) (m : Nat) : List Mk := (List.range m).flatMap (rowAt k ws)
def meetL (r : Str) (s : Fs) (n : Nat) : List Mk := (List.range n).flatMap fun k => metAt k (itF r s k).2 (itF r s k).2.length
def ansM : AnsF := fun K r fl ws n S Q => NewL K S ((meetL r (marksD fl, ws) (n + 1)).map eM) Q
theorem flatMap_succ {α : Type} (f : Nat → List α) (n : Nat) : (List.range (n + 1)).flatMap f = (List.range n).flatMap f ++ f n := by
  rw [List.range_succ, List.flatMap_append]
  simp
theorem rowAt_len (k : Nat) (ws : List Wk) (i : Nat) : (rowAt k ws i).length ≤ ws.length := by
  unfold rowAt
  rw [List.length_map]
  refine Nat.le_trans (List.length_filter_le _ _) ?_
  rw [List.length_range]
  omega
theorem metAt_len (k : Nat) (ws : List Wk) : ∀ m, (metAt k ws m).length ≤ m * ws.length
  | 0 => by simp [metAt]
  | m + 1 => by
    unfold metAt
    rw [flatMap_succ, List.length_append, Nat.succ_mul]
    have := metAt_len k ws m
    have := rowAt_len k ws m
    unfold metAt at *
    omega
theorem meetL_len (r : Str) (s : Fs) (h : s.2.length ≤ 6) : ∀ n, (meetL r s n).length ≤ n * 36
  | 0 => by simp [meetL]
  | n + 1 => by
    unfold meetL
    rw [flatMap_succ, List.length_append]
    have a := meetL_len r s h n
    have b := metAt_len n (itF r s n).2 (itF r s n).2.length
    rw [itF_len] at b
    have c : s.2.length * s.2.length ≤ 36 := Nat.mul_le_mul h h
    unfold meetL at a
    rw [itF_len]
    omega
def AnsFIs (F : AnsF) (g : Str → List Mk → List Wk → Nat → PyData) : Prop := ∀ K r fl ws n S Q, (∀ v T, Le S T → Da K T.G v (g r fl ws n) → Q v T.H) → F K r fl ws n S Q
def eFs (s : Fs) : PyData := .tuple [eWk s.2, eF (toldL s.1)]
theorem ansFR_is (it : Str → Fs → Nat → Fs) : AnsFIs (ansFR it) (fun r fl ws n => eFs (it r (marksD fl, ws) n)) := fun _ _ _ _ _ _ _ h => NewQ.of h
theorem ansM_is : AnsFIs ansM (fun r fl ws n => eF (meetL r (marksD fl, ws) (n + 1))) := fun _ _ _ _ _ _ _ h => NewL.of h
theorem w3s_inj : ∀ {a b : List Wk}, a.map w3 = b.map w3 → a = b
  | [], [], _ => rfl
  | [], _ :: _, h => by cases h
  | _ :: _, [], h => by cases h
  | x :: a, y :: b, h => by
    rw [List.map_cons, List.map_cons] at h
    obtain ⟨h1, h2⟩ := List.cons.inj h
    rw [w3_inj h1, w3s_inj h2]
section
variable {K : PySem.W.Frag} {σ : L2.St} {S : Sit} {E : XK} {tr : TA} {F : AnsF} {g : Str → List Mk → List Wk → Nat → PyData} {most : Int} {r : Str} {ws : List Wk} {fl : List Mk} {n : Int}
theorem ev_fask (hF : AnsFIs F g) (ha : EvA K tr σ S [.d (.str r), .d (eWk ws), .d (eF fl), .d (.int n)]) (hz : SzF r (ws.map w3) fl) (hb : badF r (ws.map w3) fl n most = none) :
    EvD K (tCall (sp_fask most F K) [] E tr) σ S (g r fl ws n.toNat) := fun T l Q q => ha T l _ fun vs U lU hv => by
  rw [List.append_nil]
  refine ⟨U, r, ws.map w3, fl, n, rfl, by rw [eWs_wk]; exact hv, hz, (fun x e => by rw [hb] at e; cases e), fun _ ws' e => ?_⟩
  cases w3s_inj e
  exact hF K r fl ws n.toNat U Q fun v W lW o => q v W (lU.trans lW) o
theorem badF_none {wls : List (List Int)} (h : ruleOk r = true) (h1 : 1 ≤ wls.length) (h2 : wls.length ≤ 6) (h3 : ∀ w ∈ wls, wOk w = true) (h4 : floorOk r.length fl = true) (h5 : 0 ≤ n) (h6 : n ≤ most) : badF r wls fl n most = none := by
  unfold badF
  rw [if_neg (by rw [h]; decide), if_neg (by simp [h1, h2]), if_neg (by rw [List.all_eq_true.mpr h3]; decide), if_neg (by rw [h4]; decide), if_neg (by simp [mOk, h5, h6])]
theorem badF_at {wls : List (List Int)} (h : badF r wls fl n most = none) : ruleOk r = true ∧ (1 ≤ wls.length ∧ wls.length ≤ 6) ∧ (∃ ws : List Wk, wls = ws.map w3 ∧ Hds ws) ∧ floorOk r.length fl = true ∧ 0 ≤ n ∧ n ≤ most := by
  unfold badF at h
  split at h
  · cases h
  split at h
  · cases h
  split at h
  · cases h
  split at h
  · cases h
  split at h
  · cases h
  rename_i a b c d e
  refine ⟨by simpa using a, by simpa using b, ?_, by simpa using d, by unfold mOk at e; simpa using e⟩
  have all : ∀ w ∈ wls, wOk w = true := List.all_eq_true.mp (by simpa using c)
  clear a b c d e
  induction wls with
  | nil => exact ⟨[], rfl, fun _ h => nomatch h⟩
  | cons w wls ih =>
    obtain ⟨ws, e1, e2⟩ := ih fun x hx => all x (by simp [hx])
    obtain ⟨wk, e3, _, _, hh⟩ := wOk_at (all w (by simp))
    refine ⟨wk :: ws, by rw [e1, e3]; rfl, fun x hx => ?_⟩
    rcases List.mem_cons.mp hx with rfl | hx
    · exact hh
    · exact e2 x hx
theorem st_flook {D : Ends} {wls : List (List Int)} {most : Int} (ha : EvA K tr σ S [.d (.str r), .d (eWs wls), .d (eF fl), .d (.int n), .d (.int most)]) (hz : SzF r wls fl) (k1 : badF r wls fl n most = none → ∀ T, Le S T → D.nx σ T.H) (k2 : ∀ x, badF r wls fl n most = some x → ∀ T, Le S T → E (.ref (cE K x)) none T.H) :
    tDrop (tCall (sp_look_flock K) [] E tr) D σ S.H := st_dropC ha fun vs T l hv => by
  rw [List.append_nil]
  exact ⟨T, r, wls, fl, n, most, rfl, hv, hz, fun e U lU => k1 e U (l.trans lU), fun x e U lU => k2 x e U (l.trans lU)⟩
end
theorem all_take {wls : List (List Int)} {i : Nat} {w : List Int} (h : wls[i]? = some w) (ha : (wls.take i).all wOk = true) (hw : wOk w = true) : (wls.take (i + 1)).all wOk = true := by
  rw [List.take_add_one, h, List.all_append, ha]
  simp [hw]
end MW

set_option Elab.async false
set_option linter.all false
set_option maxRecDepth 100000
set_option maxHeartbeats 4000000
namespace MW
open PySem PySem.Spec PyProof.Rows L2
set_option autoImplicit false
theorem Lm.keepG {M : List Addr} {S T U : Sit} {c : Addr} (a : Lm M S T) (hH : U.H = T.H) (hG : Same T.G U.G) (hq : ∀ q, q ≠ c → U.G q = T.G q) (hc : S.H c = none) : Lm M S U := by
  refine ⟨a.1.trans hG, fun x o hx h => by rw [hH]; exact a.2.1 x o hx h, fun x o h => ?_⟩
  have ne : x ≠ c := fun z => by rw [z, hc] at h; cases h
  exact (hq x ne).trans (a.2.2 x o h)
section
variable {K : PySem.W.Frag} {σ : L2.St} {S : Sit} {δ : List Sl} {te ta : TE} {q p : Addr} {X : Ends} {ds es : List PyData}
/-- it comes to a new list, the dict at q having changed -/
def EvG (K : PySem.W.Frag) (te : TE) (σ : L2.St) (S : Sit) (q : Addr) (D' : Dd Int) (ds : List PyData) : Prop := ∀ Q : VK, (∀ p U, Lm [q] S U → Nw S p → Dc U q D' → Ow K U p ds → Q (.ref p) U.H) → te σ S.H Q
theorem st_asgG1 {i : Nat} {D' : Dd Int} (hE : Sv K S.G σ δ) (he : EvG K te σ S q D' ds) (hq : ∃ o, S.H q = some o) (k : ∀ σ' T, Lm [q] S T → Dc T q D' → Sv K T.G σ' (δ.set i (.d (.list ds))) → X.nx σ' T.H) : tAsg te (gName i) X σ S.H :=
  he _ fun p U l n dU o => by
    obtain ⟨oq, eq⟩ := hq
    obtain ⟨T1, a1, a2, a3, a4⟩ := o.give
    have l1 := l.keepG a1 a2 a4 n.none
    show X.nx (σ.set i (some (.ref p))) U.H
    rw [← a1]
    exact k _ T1 l1 (dU.keepG a1 a4 (n q oq eq)) (Sv.set (slOk_d a3) i (hE.up l1.g))
theorem evg_rev {D' : Dd Int} (he : EvG K te σ S q D' ds) : EvG K (tRevL K te) σ S q D' ds.reverse := fun Q k => he _ fun p U l n dU o => by
  obtain ⟨g, xs, e, d⟩ := id o
  refine ⟨p, xs, rfl, SqL.of e, fun p2 hp2 => ?_⟩
  have lp : Le U (U.pushM p2 (.lst xs.reverse) hp2) := U.pushM_le hp2
  refine k p2 (U.pushM p2 (.lst xs.reverse) hp2) ?_ ?_ (dU.up lp) ⟨U.gfree hp2, xs.reverse, upd_same, d.rev⟩
  · exact l.tL lp fun x hx => by simp at hx; subst hx; exact dU.has
  · intro x o' hx e'
    subst e'
    by_cases c : x = q
    · subst c
      obtain ⟨o2, h2⟩ := dU.has
      rw [h2] at hp2
      cases hp2
    · rw [l.2.1 x o' (by simp [c]) hx] at hp2
      cases hp2
/-- xs.extend(ys) -/
theorem st_ext (ha : Ev K ta σ S (.v (.ref p))) (hp : Ow K S p ds) (he : EvD K te σ S (.list es)) (hl : ds.length + es.length ≤ 900000) (k : ∀ T, Lm [p] S T → Ow K T p (ds ++ es) → X.nx σ T.H) : tDrop (tBM K "list" rExtend ta (tCons te tNil)) X σ S.H := ha S (Le.refl S) _ fun v U l o => by
  cases (show some v = some (V.ref p) from o)
  obtain ⟨_, ys, e0, _⟩ := hp.up l
  refine ⟨.inl ⟨rfl, _, SqL.of e0⟩, he U l _ fun y W lW oW => ?_⟩
  obtain ⟨g, xs, e, d⟩ := (hp.up l).up lW
  obtain ⟨b, zs, rfl, e1, e2⟩ := Da.lst_eq oW
  refine ⟨p, b, xs, zs, rfl, rfl, e, W.sub _ _ e1, sz (by rw [d.length, e2.length]; omega), ?_⟩
  refine k (W.mut p (.lst (xs ++ zs)) g) ?_ ⟨g, xs ++ zs, upd_same, d.append e2⟩
  have lm : Lm [p] W (W.mut p (.lst (xs ++ zs)) g) := ⟨Same.refl _, fun x u hx h => by
    show upd W.H p _ x = some u
    rw [upd_ne (fun z => hx (by simp [z]))]
    exact h, fun _ _ _ => rfl⟩
  exact (l.trans lW).tM lm fun x hx => by simp at hx; subst hx; exact ⟨_, e⟩
end
/-- a round, as it goes through the list -/
def stG (r : Str) (D : Dd Int) (ws : List Wk) (i : Nat) : Dd Int × List PyData := ((flS r D (ws.take i)).1, (flS r D (ws.take i)).2.map eW3)
def stB (r : Str) (D : Dd Int) (ws : List Wk) (i : Nat) : Dd Int × List PyData := ((flT r D (ws.take i)).1, (flT r D (ws.take i)).2.map eW3)
theorem stG_succ {r : Str} {D : Dd Int} {ws : List Wk} {i : Nat} {w : Wk} (h : ws[i]? = some w) : stG r D ws (i + 1) = (goD r (stG r D ws i).1 w, (stG r D ws i).2 ++ [eW3 (goW r (stG r D ws i).1 w)]) := by
  unfold stG
  rw [List.take_add_one, h]
  show ((flS r D (ws.take i ++ [w])).1, (flS r D (ws.take i ++ [w])).2.map eW3) = _
  rw [flS_app]
  simp
theorem stB_succ {r : Str} {D : Dd Int} {ws : List Wk} {i : Nat} {w : Wk} (h : ws[i]? = some w) : stB r D ws (i + 1) = (bkD r (stB r D ws i).1 w, (stB r D ws i).2 ++ [eW3 (bkW r (stB r D ws i).1 w)]) := by
  unfold stB
  rw [List.take_add_one, h]
  show ((flT r D (ws.take i ++ [w])).1, (flT r D (ws.take i ++ [w])).2.map eW3) = _
  rw [flT_app]
  simp
section
variable {K : PySem.W.Frag} {σ : L2.St} {S : Sit} {δ : List Sl} {q : Addr} {r : Str} {D : Dd Int} {m : Nat} {ws : List Wk} {E : XK} {ir iq iw : Nat} {tw : TE}
/-- [go(rule, colours, walker) for walker in walkers] -/
theorem evg_go (hE : Sv K S.G σ δ) (hro : ruleOk r = true) (hD : Dc S q D) (ok : Okc r D m) (hm : m + ws.length ≤ 800000) (hw : EvD K tw σ S (eWk ws)) (e0 : (δ.set iw .non)[ir]? = some (.d (.str r))) (e1 : (δ.set iw .non)[iq]? = some (.v (.ref q))) (hr1 : ir ≠ iw) (hq1 : iq ≠ iw) (hlw : iw < δ.length) :
    EvG K (tLc (iList K tw) (gName iw) tYes (tCall (sp_go K) [] E (tCons (tVar ir) (tCons (tVar iq) (tCons (tVar iw) tNil)))) [iw]) σ S q (flS r D ws).1 ((flS r D ws).2.map eW3) := fun Q k => by
  have rl := ruleOk_len hro
  have fin : stG r D ws ws.length = ((flS r D ws).1, (flS r D ws).2.map eW3) := by unfold stG; rw [List.take_length]
  refine em_lc (xs := ws) (enc := eW3) hE (ei_list hw) (fun w => [(iw, eW3 w)]) (stG r D ws) rfl hD (fun w _ => tg_name) (fun w _ z hz => by simp at hz; subst hz; simp) (fun i w hi => ?_) (by omega) Q ?_
  · have hil := (List.getElem?_eq_some_iff.mp hi).1
    have s1 := stG_succ (r := r) (D := D) hi
    refine ⟨eW3 (goW r (stG r D ws i).1 w), by rw [s1], ?_, fun σ' T lT dT hE' => ?_⟩
    · unfold stG
      rw [List.length_map, flS_len, List.length_take]
      omega
    · have oki : Okc r (stG r D ws i).1 (m + (ws.take i).length) := flS_ok rl.1 (ws.take i) ok
      have hE' : Sv K T.G σ' ((δ.set iw .non).set iw (.d (eW3 w))) := hE'
      rw [s1]
      refine evm_go (ea_cons (ev_var hE' ?_) (ea_cons (ev_varv hE' ?_) (ea_cons (ev_var hE' ?_) ea_nil))) hro dT oki.cl ?_
      · rw [List.getElem?_set_ne (Ne.symm hr1)]; exact e0
      · rw [List.getElem?_set_ne (Ne.symm hq1)]; exact e1
      · exact List.getElem?_set_self (by simpa using hlw)
      · have := oki.le
        rw [List.length_take] at this
        omega
  · rw [fin]
    exact k
/-- [go_back(rule, colours, walker) for walker in ..] -/
theorem evg_bk (hE : Sv K S.G σ δ) (hro : ruleOk r = true) (hD : Dc S q D) (ok : Okc r D m) (hh : Hds ws) (hm : m + ws.length ≤ 800000) (hw : EvD K tw σ S (eWk ws)) (e0 : (δ.set iw .non)[ir]? = some (.d (.str r))) (e1 : (δ.set iw .non)[iq]? = some (.v (.ref q))) (hr1 : ir ≠ iw) (hq1 : iq ≠ iw) (hlw : iw < δ.length) :
    EvG K (tLc (iList K tw) (gName iw) tYes (tCall (sp_go_back K) [] E (tCons (tVar ir) (tCons (tVar iq) (tCons (tVar iw) tNil)))) [iw]) σ S q (flT r D ws).1 ((flT r D ws).2.map eW3) := fun Q k => by
  have rl := ruleOk_len hro
  have fin : stB r D ws ws.length = ((flT r D ws).1, (flT r D ws).2.map eW3) := by unfold stB; rw [List.take_length]
  refine em_lc (xs := ws) (enc := eW3) hE (ei_list hw) (fun w => [(iw, eW3 w)]) (stB r D ws) rfl hD (fun w _ => tg_name) (fun w _ z hz => by simp at hz; subst hz; simp) (fun i w hi => ?_) (by omega) Q ?_
  · have hil := (List.getElem?_eq_some_iff.mp hi).1
    have s1 := stB_succ (r := r) (D := D) hi
    refine ⟨eW3 (bkW r (stB r D ws i).1 w), by rw [s1], ?_, fun σ' T lT dT hE' => ?_⟩
    · unfold stB
      rw [List.length_map, flT_len, List.length_take]
      omega
    · have oki : Okc r (stB r D ws i).1 (m + (ws.take i).length) := flT_ok rl.1 (ws.take i) ok
      have hE' : Sv K T.G σ' ((δ.set iw .non).set iw (.d (eW3 w))) := hE'
      rw [s1]
      refine evm_back (ea_cons (ev_var hE' ?_) (ea_cons (ev_varv hE' ?_) (ea_cons (ev_var hE' ?_) ea_nil))) hro dT oki.cl ?_ (hh w (List.mem_of_getElem? hi))
      · rw [List.getElem?_set_ne (Ne.symm hr1)]; exact e0
      · rw [List.getElem?_set_ne (Ne.symm hq1)]; exact e1
      · exact List.getElem?_set_self (by simpa using hlw)
      · have := oki.le
        rw [List.length_take] at this
        omega
  · rw [fin]
    exact k
end
end MW

set_option Elab.async false
set_option linter.all false
set_option maxRecDepth 100000
set_option maxHeartbeats 4000000
namespace MW
open PySem PySem.Spec PyProof.Rows L2
set_option autoImplicit false
/-! ### a comprehension whose item raises -/
section
variable {X : Cx} {pins : List (Addr × Obj)} {σ : L2.St} {H H' : Hp} {s s' : Shared} {B : Heap} {W : WX} {E : XK}
theorem Sky.stays {l : List Env} {a L : Addr} {Z : Obj → Prop} {h : Heap} (x : Sky B l a Z L h) : B.StaysIn h := by
  rcases x with x | x | x
  · exact x.1
  · exact x.1
  · exact x.1
/-- an exception over the ground B is in our air -/
theorem xe_of_sky {a : Addr} {cls : Value} {d : Option Addr} (I : Inv X pins σ H s) (sky : Sky B X.stack a (Zc cls d) X.env.locals s'.heap) (hok : HOk X.prog X.w H' B) (ub : UB (frs X.stack) H H' s.heap B s'.heap) (na : H' a = none) (os : s'.os = s.os) (ag : AllBare s'.gens) (hE : W cls d σ H') : XE X W (.ref a) s' := by
  obtain ⟨G, g1, g2⟩ := restrict s'.heap fun b => (B.get? b).isSome || decide (b ∈ frs X.stack)
  have st : B.StaysIn s'.heap := Sky.stays sky
  have gB : ∀ b o, B.get? b = some o → G.get? b = some o := fun b o e => by
    rw [g1 b (by simp [e])]
    exact st b o e
  have gF : ∀ b, b ∈ frs X.stack → G.get? b = s'.heap.get? b := fun b hb => g1 b (by simp [hb])
  have og : ∀ b o, G.get? b = some o → s'.heap.get? b = some o ∧ ((B.get? b).isSome = true ∨ b ∈ frs X.stack) := fun b o e => by
    cases q : ((B.get? b).isSome || decide (b ∈ frs X.stack)) with
    | false => rw [g2 b q] at e; cases e
    | true =>
      rw [g1 b q] at e
      exact ⟨e, by simpa [Bool.or_eq_true] using q⟩
  refine ⟨a, B, { s with heap := G, gens := s'.gens, drawn := s'.drawn, toks := s'.toks }, pins, σ, H', cls, d, rfl, ?_, fun b o e hb => ?_, Heap.UpToSlots.of_keeps fun b o e => (og b o e).1, sky, na, os, ag, hE⟩
  · refine I.call (ch := []) ⟨fun b o e n hb _ => gB b o (ub.keep b o e n hb), fun b o e n hb _ => ?_, fun b o e n _ => ub.free b o e n, fun b o e _ => ?_, ub.tups, ub.frzs, ub.tbls⟩ (hok.kept gB) ag (fun _ z => nomatch z)
    · obtain ⟨sl, q⟩ := ub.slot b o e hb
      exact ⟨sl, by rw [gF b hb]; exact q⟩
    · by_cases hb : b ∈ frs X.stack
      · obtain ⟨sl, q⟩ := ub.slot b o e hb
        exact ⟨_, by rw [gF b hb]; exact q⟩
      · obtain ⟨o', q⟩ := ub.there b o e hb
        exact ⟨o', gB b o' q⟩
  · obtain ⟨e', h⟩ := og b o e
    rcases h with h | h
    · obtain ⟨o', q⟩ := Option.isSome_iff_exists.mp h
      have z := st b o' q
      rw [e'] at z; cases z
      exact q
    · exact absurd h hb
end
theorem hide_get {h : Heap} {C b : Addr} {o : Obj} : (PySem.W.hideAll h [C]).get? b = some o ↔ h.get? b = some o ∧ b ≠ C := by
  constructor
  · intro e
    refine ⟨PySem.W.of_hideAll _ e, fun z => ?_⟩
    rw [z, PySem.W.hideAll_none [C] (by simp)] at e
    cases e
  · rintro ⟨e, n⟩
    exact PySem.W.hideAll_get _ e (by simpa using n)
theorem hide_none {h : Heap} {C b : Addr} (e : h.get? b = none) : (PySem.W.hideAll h [C]).get? b = none := by
  cases q : (PySem.W.hideAll h [C]).get? b with
  | none => rfl
  | some o =>
    rw [(hide_get.mp q).1] at e
    cases e
theorem frames_but {B h h' : Heap} {C : Addr} (sb : Heap.SameBut C h h') : ∀ {l : List Env}, (C ∉ frs l) → h.FunFrames B l → h'.FunFrames (PySem.W.hideAll B [C]) l
  | [], _, _ => trivial
  | env :: l, hn, ⟨hk, ⟨L, o, hf, hb, ho, hd⟩, hr⟩ => by
    have ne : L ≠ C := fun z => hn (List.mem_filterMap.mpr ⟨env, List.mem_cons_self, by rw [hf, z]⟩)
    refine ⟨hk, ⟨L, o, hf, hide_none hb, (sb.2 L ne).trans ho, hd⟩, frames_but sb (fun hm => hn ?_) hr⟩
    obtain ⟨e, he, q⟩ := List.mem_filterMap.mp hm
    exact List.mem_filterMap.mpr ⟨e, List.mem_cons_of_mem _ he, q⟩
/-- held, the block let go -/
theorem held_but {B h h' : Heap} {l : List Env} {a L C : Addr} {Z : Obj → Prop} {o : Obj} (hh : HandSPX.HeldZ B l a Z L h) (hC : h.get? C = some o) (hd : ∀ vs, o.data ≠ .fields vs) (hn : C ∉ frs l) (sb : Heap.SameBut C h h') : HandSPX.HeldZ (PySem.W.hideAll B [C]) l a Z L h' := by
  obtain ⟨f1, f2, f3, oe, vs, T, oT, ts, he, hz, hde, h1, hnT, hTe, hT, hdT, h3⟩ := hh
  have nC : ∀ {b : Addr} {u : Obj} {vs : Array Value}, h.get? b = some u → u.data = .fields vs → b ≠ C := fun {b u vs} e q z => by
    rw [z, hC] at e
    cases e
    exact hd vs q
  refine ⟨fun b u e => ?_, hide_none f2, frames_but sb hn f3, oe, vs, T, oT, ts, (sb.2 a (nC he hde)).trans he, hz, hde, h1, hide_none hnT, hTe, (sb.2 T (nC hT hdT)).trans hT, hdT, h3⟩
  obtain ⟨e, n⟩ := hide_get.mp e
  exact (sb.2 b n).trans (f1 b u e)
theorem note_same {M : Model} {A : Around} {e : Value} {c1 c2 : Env} (h : c1.frame = c2.frame) : noteFrame e c1 = noteFrame e c2 := by
  unfold noteFrame PySem.frameOf
  rw [h]
section
variable {X : Cx} {pins : List (Addr × Obj)} {σ : L2.St} {H3 : Hp} {s3 : Shared} {W : WX} {E : XK} {scope : Scope} {ce : Env} {fp : List Addr} {use : Option (Value → Sem Unit)} {Qf : Value → Shared → Prop} {D : Value}
/-- what a call within the block lets out, the comprehension lets out -/
theorem lc_fail (hst : X.stack = X.env :: X.outer) (hf : X.env.frame = some X.env.locals) (tk : Takes X W) (hW : ∀ cls d σ H, E cls d H → W cls d σ H) (I3 : Inv X pins σ H3 s3) (hL : ce.locals = s3.heap.objs.size) (hfr : ce.frame = X.env.frame)
    (hfp : ∀ b ∈ fp, (b ∈ X.ex ∨ X.s_0.heap.objs.size ≤ b) ∧ b ≠ X.env.locals ∧ (∀ x c, X.env.cells.lookup x = some c → c ≠ b) ∧ ∀ p ∈ X.pn ++ pins, p.1 ≠ b) (hfs : ∀ b ∈ fp, b ∉ frs X.stack) {pn pins' : List (Addr × Obj)} {xe : Value → Shared → Prop} {σ' : L2.St} {H1 : Hp} {s1 s2 : Shared} {e : Value}
    (J : Inv ((X.blk s3 H3 scope ce fp).tr pn xe) pins' σ' H1 s1) (c : CX X.prog X.w X.stack H1 s1 E e s2) : notedBy (model X.prog X.w) X.A ce (fun e s' => compEnds (model X.prog X.w) X.A X.xe use Qf D ce (.error e) s') e s2 := by
  obtain ⟨a, B, H', cls, d, rfl, fl, hokB, ub, na, os, ag, hE⟩ := c
  have hfrs : X.A.frames = some (X.env :: X.outer) := by rw [I3.ok.frames, hst]
  have jb : Un (frs X.stack) fp H3 H1 s3.heap s1.heap := J.base
  have jf : H1 ce.locals = none := J.free
  obtain ⟨m, hns, _⟩ := J.loc
  have hns : s1.heap.Ns ce.locals m := hns
  have c3 : s3.heap.get? ce.locals = none := by
    cases q : s3.heap.get? ce.locals with
    | none => rfl
    | some o =>
      have := Heap.lt_size q
      rw [hL] at this
      exact absurd this (Nat.lt_irrefl _)
  have ne3 : ∀ {b : Addr} {o : Obj}, s3.heap.get? b = some o → b ≠ ce.locals := fun {b o} q z => by
    rw [z, c3] at q
    cases q
  have nC : ce.locals ∉ frs X.stack := fun hm => by
    obtain ⟨_, o, q, _⟩ := I3.stack.mem hm
    exact ne3 q rfl
  have stf : ∀ b ∈ frs X.stack, ∀ o, s1.heap.get? b = some o → ∀ vs, o.data ≠ .fields vs := fun b hb o q => by
    obtain ⟨_, o3, q3, n3⟩ := I3.stack.mem hb
    have hf3 : H3 b = none := I3.stkFree b hb
    by_cases hx : b ∈ fp
    · exact absurd hb (hfs b hx)
    · obtain ⟨sl, q1⟩ := jb.slot b o3 q3 hf3 hb hx
      rw [q] at q1
      cases q1
      exact n3
  have tracked : ∀ {G : Hp} {b c : Addr} {o : HO}, G ce.locals = none → G b = some o → (c = b ∨ G c = some (.own b)) → c ≠ ce.locals := fun {G b c o} hn hb hc z => by
    rw [z] at hc
    rcases hc with hc | hc
    · rw [← hc, hn] at hb; cases hb
    · rw [hn] at hc; cases hc
  have IX : Inv X pins σ H1 { s1 with heap := PySem.W.hideAll s1.heap [ce.locals] } := by
    refine I3.call' (ch := fp) J.os ⟨fun b o q n hb hx => hide_get.mpr ⟨jb.keep b o q n hb hx, ne3 q⟩, fun b o q n hb hx => ?_, jb.free, fun b o q hx => ?_, jb.tups, jb.frzs, jb.tbls⟩ (fun b o q => ?_) J.bare hfp
    · obtain ⟨sl, z⟩ := jb.slot b o q n hb hx
      exact ⟨sl, hide_get.mpr ⟨z, ne3 q⟩⟩
    · obtain ⟨o', z⟩ := jb.there b o q hx
      exact ⟨o', hide_get.mpr ⟨z, ne3 q⟩⟩
    · exact (J.hok b o q).stay (fun c u hc r => hide_get.mpr ⟨r, tracked jf q hc⟩) (fun _ z => z) fun _ _ z => z
  obtain ⟨oC, es, ep, hoC, hr⟩ := hns
  have H'C : H' ce.locals = none := ub.free _ _ hoC jf
  have BC : B.get? ce.locals = some oC := ub.keep _ _ hoC jf nC
  rw [hst] at fl
  show wpAny _ _ (noteFrame (.ref a) ce) _ _ _
  rw [note_same (M := model X.prog X.w) (A := X.A) hfr]
  refine HandSPX.looks_onZ Zc.steady hfrs hf fl fun h1 held up1 => ?_
  have h1C : h1.get? ce.locals = some oC := held.1 _ _ BC
  show CompFails _ _ _ _ _ _
  refine ⟨m, ⟨oC, es, ep, h1C, hr⟩, fun h' m' hn' sb => ?_⟩
  have hdC : ∀ vs, oC.data ≠ .fields vs := fun vs z => by
    have z2 := hr.1
    rw [z] at z2
    cases z2
  have held' := held_but held h1C hdC (by rw [← hst]; exact nC) sb
  obtain ⟨_, _, _, oe, vs, T, oT, ts, he, hz, hd, ht1, hnT, hTe, hT, hdT, ht3⟩ := held'
  unfold PySem.passOn
  refine wpAny_bind (wpAny_field he hd ht1 ?_)
  rw [if_neg (by simp)]
  refine wpAny_bind ?_
  rw [hfr, hf]
  refine HandSPX.setFlight_onZ (held_but held h1C hdC (by rw [← hst]; exact nC) sb) fun h2 held2 up2 => ?_
  refine wpAny_throw (tk _ _ (xe_of_sky (B := PySem.W.hideAll B [ce.locals]) (H' := H') IX (.inr (.inr (by rw [hst]; exact held2))) (fun b o q => (hokB b o q).stay (fun c u hc r => hide_get.mpr ⟨r, tracked H'C q hc⟩) (fun _ z => z) fun _ _ z => z) ⟨fun b o q n hb => ?_, fun b o q hb => ?_, fun b o q n => ub.free b o (hide_get.mp q).1 n, fun b o q hb => ?_, ub.tups, ub.frzs, ub.tbls⟩ na os ag (hW _ _ _ _ hE)))
  · obtain ⟨q1, q2⟩ := hide_get.mp q
    exact hide_get.mpr ⟨ub.keep b o q1 n hb, q2⟩
  · obtain ⟨q1, q2⟩ := hide_get.mp q
    obtain ⟨sl, z⟩ := ub.slot b o q1 hb
    have nf := stf b hb o q1
    obtain ⟨sl1, z1⟩ := up1 b _ z nf
    have z2 := (sb.2 b q2).trans z1
    obtain ⟨sl2, z3⟩ := up2 b _ z2 nf
    exact ⟨sl2, z3⟩
  · obtain ⟨q1, q2⟩ := hide_get.mp q
    obtain ⟨o', z⟩ := ub.there b o q1 hb
    exact ⟨o', hide_get.mpr ⟨z, q2⟩⟩
end
section
variable {X : Cx} {W : WX} {E : XK}
theorem lc_coreX {pins : List (Addr × Obj)} {s : Shared} {σ : L2.St} {H : Hp} {Q : VK} {elt tg iter : Expr} {ifs : List Expr} {scope : Scope} {own : List (Str × Nat)} {pos pos' : Pos} {wi : TI} {g : TG} {tt : TT} {te : TE} {use : Option (Value → Sem Unit)} {Qf : Value → Shared → Prop}
    (hst : X.stack = X.env :: X.outer) (hf : X.env.frame = some X.env.locals) (tk : Takes X W) (hW : ∀ cls d σ H, E cls d H → W cls d σ H)
    (hc : X.calm = true) (hN : X.N.Nodup) (I : Inv X pins σ H s) (hi : PI X tg iter wi) (ok : BlkOk X.N X.env.scope scope own)
    (hg : ∀ (s : Shared) (H : Hp) (C : Addr) (cl : List (Str × Addr)) (fp : List Addr), PG (X.blk s H scope (compEnvC scope cl C X.env) fp) tg g) (ht : ∀ (s : Shared) (H : Hp) (C : Addr) (cl : List (Str × Addr)) (fp : List Addr), PTs (X.blk s H scope (compEnvC scope cl C X.env) fp) ifs tt)
    (he : ∀ (s : Shared) (H : Hp) (C : Addr) (cl : List (Str × Addr)) (fp : List Addr) (pn : List (Addr × Obj)) (xe : Value → Shared → Prop), (∀ (pins : List (Addr × Obj)) (σ : L2.St) (H1 : Hp) (s1 : Shared) (e : Value) (s2 : Shared), Inv ((X.blk s H scope (compEnvC scope cl C X.env) fp).tr pn xe) pins σ H1 s1 → CX X.prog X.w X.stack H1 s1 E e s2 → xe e s2) → PE ((X.blk s H scope (compEnvC scope cl C X.env) fp).tr pn xe) elt te) (hs : ∀ x, foldedSetIterable iter X.env x = pure x)
    (h : tLc wi g tt te (own.map (·.2)) σ H Q)
    (hRR : ∀ D (ce : Env) s' m H', Inv X pins σ H' s' → Q (.ref D) H' → s'.heap.Ns ce.locals m → FpOk X pins H' ce.locals → compEnds (model X.prog X.w) X.A X.xe use Qf (.ref D) ce (.ok .next) s') :
    wpAny (model X.prog X.w) X.A (comprehension (.ListComp elt [⟨tg, iter, ifs, 0⟩] scope pos) scope X.env pos' (newList []) false (eval iter X.env) use) Qf X.xe s := by
  have hfree : ∀ y ∈ scope.names, y.2 = .free → ∃ c, X.env.cells.lookup y.1 = some c := fun y hy e => by
    rcases ok.free y hy e with k | k
    · exact I.ok.has _ (.inl k)
    · exact I.ok.has _ (.inr k)
  refine comprehension_at (use := use) rfl hs (closure_ok hfree) ok.kind (fun y hy e => by rw [ok.uniq y hy, e])
    (thn (hi.run pins s σ H _ I h) fun xv s1 hx => thn hx fun itv s2 h2 => ?_)
  obtain ⟨it, fp, tn, J, H2, e, I2, T, st2, f2, q⟩ := h2
  subst e
  refine wpAny_newObj_type (newEnv_comp ?_) (by show 0 ≤ sizeLine; decide)
  generalize hD : s2.heap.objs.size = D
  have hDn : H2 D = none := I2.hok.fresh (Nat.le_of_eq hD)
  obtain ⟨Wn, ⟨m0, w0⟩, turn⟩ := q D hDn
  -- the new list
  generalize hs3 : ({ s2 with heap := s2.heap.push { cls := .type "list", data := .seq ([] : List Value).toArray } } : Shared) = s3
  have I3 : Inv X pins σ (upd H2 D (.lst [])) s3 := by
    rw [← hs3]
    refine I2.laid (t' := s2.toks) (fun b o e => Heap.get?_push_of_some _ e) (Nat.le_of_eq hD) ⟨Nat.zero_le _, [], 0, .nil, ?_⟩
    rw [← hD]
    exact Heap.get?_push_size _ rfl
  have h3 : s3.heap = s2.heap.push { cls := .type "list", data := .seq ([] : List Value).toArray } := by rw [← hs3]
  have sz : ∀ b ∈ fp, b < s2.heap.objs.size := fun b hb => by
    obtain ⟨o, e, _⟩ := T.obj _ _ st2 b hb
    exact Heap.lt_size e
  have f3 : ∀ b ∈ fp, FpOk X pins (upd H2 D (.lst [])) b ∧ b < s3.heap.objs.size := fun b hb => by
    have hlt := sz b hb
    refine ⟨⟨?_, (f2 b hb).2⟩, by rw [h3, Heap.size_push]; exact Nat.lt_succ_of_lt hlt⟩
    rw [upd_ne (by rw [← hD]; exact Nat.ne_of_lt hlt)]
    exact (f2 b hb).1
  have st3 : tn 0 s3.heap := T.keep _ _ _ st2 fun b _ o e => by rw [h3]; exact Heap.get?_push_of_some _ e
  have I4 := block_start I3 ok hN f3
  have pg := hg s3 (upd H2 D (.lst [])) s3.heap.objs.size (cellsFrom (s3.heap.objs.size + 1) scope.names (cloFrom X.env.cells scope.names [])) fp
  have pt := ht s3 (upd H2 D (.lst [])) s3.heap.objs.size (cellsFrom (s3.heap.objs.size + 1) scope.names (cloFrom X.env.cells scope.names [])) fp
  have pe := he s3 (upd H2 D (.lst [])) s3.heap.objs.size (cellsFrom (s3.heap.objs.size + 1) scope.names (cloFrom X.env.cells scope.names [])) fp
  show codeAny _ _ (.compStart (.ListComp elt [⟨tg, iter, ifs, 0⟩] scope pos) 0 (.ref it) (.ref D) (compEnvC scope (cellsFrom (s3.heap.objs.size + 1) scope.names (cloFrom X.env.cells scope.names [])) s3.heap.objs.size X.env)) (compEnds (model X.prog X.w) X.A X.xe use Qf (.ref D) (compEnvC scope (cellsFrom (s3.heap.objs.size + 1) scope.names (cloFrom X.env.cells scope.names [])) s3.heap.objs.size X.env)) _
  have nfp : ∀ b ∈ fp, (upd H2 D (.lst [])) b = none := fun b hb => (f3 b hb).1.1
  generalize hce : compEnvC scope (cellsFrom (s3.heap.objs.size + 1) scope.names (cloFrom X.env.cells scope.names [])) s3.heap.objs.size X.env = ce at I4 pg pt pe ⊢
  have cL : ce.locals = s3.heap.objs.size := by subst hce; rfl
  have cF : ce.frame = X.env.frame := by subst hce; rfl
  generalize hH3 : upd H2 D (.lst []) = H3 at I3 I4 pg pt pe w0 nfp f3
  generalize hs4 : ({ s3 with heap := pushCells (s3.heap.push { cls := .type "dict", data := .dict #[] }) scope.names } : Shared) = s4 at I4 ⊢
  have st4 : tn 0 s4.heap := T.keep _ _ _ st3 fun b _ o e => by rw [← hs4]; exact pushCells_keeps _ _ _ _ (Heap.get?_push_of_some _ e)
  have stat : ∀ {σ' : L2.St} {H' : Hp} {s' : Shared}, Inv (X.blk s3 H3 scope ce fp) [] σ' H' s' → (∀ b ∈ fp, H' b = none) → ∀ b ∈ fp, FpOk (X.blk s3 H3 scope ce fp) [] H' b := fun {σ' H' s'} I' hn b hb =>
    ⟨hn b hb, (I'.ok.exf b hb).1, I'.ok.exfs b hb, .inl hb, fun x c e => (I'.ok.exf b hb).2 x c e, fun p hp => absurd (show p ∈ ([] : List (Addr × Obj)) ++ [] from hp) (by simp)⟩
  have hfp : ∀ b ∈ fp, (b ∈ X.ex ∨ X.s_0.heap.objs.size ≤ b) ∧ b ≠ X.env.locals ∧ (∀ x c, X.env.cells.lookup x = some c → c ≠ b) ∧ ∀ p ∈ X.pn ++ pins, p.1 ≠ b := fun b hb => ⟨(f3 b hb).1.2.2.2.1, (f3 b hb).1.2.1, (f3 b hb).1.2.2.2.2.1, (f3 b hb).1.2.2.2.2.2⟩
  have hfs : ∀ b ∈ fp, b ∉ frs X.stack := fun b hb hm => by
    rcases List.mem_cons.mp (I3.stkSub b hm) with z | z
    · exact (f3 b hb).1.2.1 z
    · exact (f3 b hb).1.2.2.1 z
  have loop : codeAny (model X.prog X.w) X.A (.compLoop (.ListComp elt [⟨tg, iter, ifs, 0⟩] scope pos) 0 (.ref it) (.ref D) ce) (compEnds (model X.prog X.w) X.A X.xe use Qf (.ref D) ce) s4 := by
    refine compLoop_any (fun n s' => ∃ i H', Inv (X.blk s3 H3 scope ce fp) [] (wipe σ (own.map (·.2))) H' s' ∧ tn i s'.heap ∧ (∀ b ∈ fp, H' b = none) ∧ Wn i n H') ?_ m0 ⟨0, H3, I4, st4, nfp, w0⟩
    rintro n s5 ⟨i, H5, I5, st5, n5, w5⟩
    rcases turn i n H5 w5 with ⟨stop, qq⟩ | ⟨go, Nx, hNx, step⟩
    · have td := T.done (X.blk s3 H3 scope ce fp) rfl rfl rfl hc i [] s5 _ H5 (fun _ _ => False) I5 (stat I5 n5) st5 stop
      refine thnF td fun r s6 ⟨hr, I6⟩ => ?_
      subst hr
      have I7 : Inv X pins σ H5 s6 := I3.call' (ch := fp) I6.os I6.base I6.hok I6.bare hfp
      have nC : H5 ce.locals = none := I6.free
      obtain ⟨m, hn, _⟩ := I6.loc
      have hn : s6.heap.Ns ce.locals m := hn
      refine hRR D ce s6 m H5 I7 qq hn ?_
      rw [cL] at nC ⊢
      exact I3.fpOk (Nat.le_refl _) nC
    · have ti := T.item (X.blk s3 H3 scope ce fp) rfl rfl rfl hc i [] s5 _ H5 (fun _ _ => False) I5 (stat I5 n5) st5 go
      refine thnF ti fun r s6 ⟨u, hr, h6⟩ => ?_
      subst hr
      refine thnF h6 fun _ s7 ⟨x, H7, I7, r7, y7, st7, n7⟩ => ?_
      have I7' := I7.pinned (stat I7 n7) (T.obj _ _ st7)
      refine thnF (pg.run _ s7 _ H7 x u _ I7' r7 (step x H7 y7)) fun _ s8 ⟨σ8, H8, I8, hw8, q8⟩ => ?_
      refine thnF (pt.run _ s8 σ8 H8 _ I8 q8) fun b s9 ⟨H9, I9, q9⟩ => ?_
      -- the turn's end
      have fin : ∀ {s' : Shared} {H' : Hp}, Inv (X.blk s3 H3 scope ce fp) ([] ++ pinsAt fp s7.heap) σ8 H' s' → Nx H' → ∃ m, m < n ∧ ∃ i H', Inv (X.blk s3 H3 scope ce fp) [] (wipe σ (own.map (·.2))) H' s' ∧ tn i s'.heap ∧ (∀ b ∈ fp, H' b = none) ∧ Wn i m H' := fun {s' H'} I' nx => by
        obtain ⟨m', hm, w'⟩ := hNx H' nx
        have pin' : ∀ b ∈ fp, ∀ o, s7.heap.get? b = some o → s'.heap.get? b = some o ∧ H' b = none := fun b hb o e =>
          let z := I'.pin (b, o) (List.mem_append_right _ (List.mem_append_right _ (mem_pinsAt hb e)))
          ⟨z.1, z.2.1⟩
        have hl : (wipe σ (own.map (·.2))).length = σ8.length := by rw [← hw8, wipe_length]
        refine ⟨m', hm, i + 1, H', (I'.unpinned (pins := [])).weak hl (fun j v e => ?_), T.keep _ _ _ st7 fun b hb o e => (pin' b hb o e).1, fun b hb => ?_, w'⟩
        · rw [← hw8] at e
          exact (wipe_some e).1
        · obtain ⟨o, e, _⟩ := T.obj _ _ st7 b hb
          exact (pin' b hb o e).2
      cases b with
      | false =>
        simp only [Bool.false_eq_true, if_false] at q9 ⊢
        exact fin I9 q9
      | true =>
        simp only [if_true] at q9 ⊢
        have okB := I9.ok
        have pe' := pe ((X.blk s3 H3 scope ce fp).pn ++ ([] ++ pinsAt fp s7.heap)) (notedBy (model X.prog X.w) X.A ce (fun e s' => compEnds (model X.prog X.w) X.A X.xe use Qf (.ref D) ce (.error e) s')) (fun pins' σ' H1 s1 e s2 J c => lc_fail hst hf tk hW I3 cL cF hfp hfs J c)
        refine thn (pe'.run [] s9 σ8 H9 _ (I9.toTry _) q9) fun z s10 ⟨yv, H10, I10, r10, acc, hD10, hz10, nx⟩ => ?_
        exact app_ok (X := X.blk s3 H3 scope ce fp) (I10.ofTry okB) hD10 hz10 r10 fun s11 I11 => fin I11 nx
  exact codeAny_compStart_list loop (T.self X.A 0 _ _ _ st4 loop)
theorem ps_setLcX {i : Nat} {y : Str} {py : Pos} {elt tg iter : Expr} {ifs : List Expr} {scope : Scope} {own : List (Str × Nat)} {pos spos : Pos} {wi : TI} {g : TG} {tt : TT} {te : TE} (hst : X.stack = X.env :: X.outer) (hf : X.env.frame = some X.env.locals) (tk : Takes X W) (hW : ∀ cls d σ H, E cls d H → W cls d σ H)
    (hc : X.calm = true) (hN : X.N.Nodup) (hy : X.N[i]? = some y) (hyl : X.env.scope.names.lookup y = some .local)
    (hsw : swapsWith (.ListComp elt [⟨tg, iter, ifs, 0⟩] scope pos) (some (.Name y py)) spos.line X.env = pure true) (hi : PI X tg iter wi) (ok : BlkOk X.N X.env.scope scope own)
    (hg : ∀ (s : Shared) (H : Hp) (C : Addr) (cl : List (Str × Addr)) (fp : List Addr), PG (X.blk s H scope (compEnvC scope cl C X.env) fp) tg g) (ht : ∀ (s : Shared) (H : Hp) (C : Addr) (cl : List (Str × Addr)) (fp : List Addr), PTs (X.blk s H scope (compEnvC scope cl C X.env) fp) ifs tt)
    (he : ∀ (s : Shared) (H : Hp) (C : Addr) (cl : List (Str × Addr)) (fp : List Addr) (pn : List (Addr × Obj)) (xe : Value → Shared → Prop), (∀ (pins : List (Addr × Obj)) (σ : L2.St) (H1 : Hp) (s1 : Shared) (e : Value) (s2 : Shared), Inv ((X.blk s H scope (compEnvC scope cl C X.env) fp).tr pn xe) pins σ H1 s1 → CX X.prog X.w X.stack H1 s1 E e s2 → xe e s2) → PE ((X.blk s H scope (compEnvC scope cl C X.env) fp).tr pn xe) elt te) (hs : ∀ x, foldedSetIterable iter X.env x = pure x := by intro _; rfl) :
    PS X (.Assign [.Name y py] (.ListComp elt [⟨tg, iter, ifs, 0⟩] scope pos) spos) (tAsg (tLc wi g tt te (own.map (·.2))) (gName i)) := by
  refine ⟨fun pins s σ H D I h => ?_⟩
  rw [exec_Assign_Name_used _ _ _ _ hsw]
  refine wpAny_bind (wpAny_standAt (wpAny_bind ?_))
  show wpAny _ X.A (do let _ ← comprehension (.ListComp elt [⟨tg, iter, ifs, 0⟩] scope pos) scope X.env (firstIterPos [⟨tg, iter, ifs, 0⟩] pos) (newList []) false (eval iter X.env) (some (assign (.Name y py) X.env))) _ _ s
  have h : tLc wi g tt te (own.map (·.2)) σ H (fun x H1 => gName i x σ H1 D.nx) := h
  refine wpAny_bind (thn (lc_coreX (Qf := fun _ s' => SP X pins D .next s') hst hf tk hW hc hN I hi ok hg ht he hs h fun L ce s' m H' I' q hn f => ?_) fun _ s' hq => wpAny_pure (wpAny_pure hq))
  show wpAny _ _ (assign (.Name y py) X.env (.ref L)) _ _ _
  refine wpAny_assign_Name (store_ok2 (v := V.ref L) I' hN hy (.inl hyl) rfl (fun s2 I2 ⟨a, sb, ha⟩ => ?_) (.inr hyl))
  obtain ⟨f0, f1, f2, f3, f4, f5⟩ := f
  have haC : ce.locals ≠ a := by
    rcases ha with z | z
    · rw [z]; exact f1
    · exact fun e => f4 y a z e.symm
  refine ⟨m, hn.sameBut sb haC, fun h3 sb3 => ?_⟩
  exact ⟨_, H', I2.turned (t' := s2.toks) (fun b o hb e => (sb3.2 b hb).trans e) f0 f1 f3 f4 f5, q⟩
end
end MW

set_option Elab.async false
set_option linter.all false
set_option maxRecDepth 100000
set_option maxHeartbeats 4000000
namespace MW
open PySem PySem.Spec PyProof.Rows L2
set_option autoImplicit false
theorem hd_at {h : Int} (h0 : 0 ≤ h) (h4 : h < 4) : L2.atI hdL h = some (hdC h) := by
  have key : ∀ k ∈ List.range 4, L2.atI hdL ((k : Nat) : Int) = some (hdC ((k : Nat) : Int)) := by decide +kernel
  obtain ⟨k, rfl⟩ := Int.eq_ofNat_of_zero_le h0
  exact key k (List.mem_range.mpr (by omega))
theorem strL_len {k : Int} (h : -100 ≤ k ∧ k ≤ 100) : (strL k).length ≤ 4 := (num_facts k (nums_mem.mpr h)).2.2.1
theorem wkL_len {w : Wk} (h : wOk (w3 w) = true) : (wkL w).length ≤ 20 := by
  obtain ⟨⟨h1, h2⟩, _⟩ := w_at h
  have := strL_len h1
  have := strL_len h2
  unfold wkL plL
  simp only [List.length_append, List.length_cons, List.length_nil]
  omega
theorem mkL_len {n : Nat} {m : Mk} (h5 : n ≤ 5) (h : markOk n m = true) : (mkL m).length ≤ 20 := by
  obtain ⟨⟨h1, h2⟩, h3, h4⟩ := mark_at h
  have := strL_len h1
  have := strL_len h2
  have := strL_len (k := m.2.2) (by omega)
  unfold mkL plL
  simp only [List.length_append, List.length_cons]
  omega
theorem sum_le {ws : List Cs} (h : ∀ p ∈ ws, p.length ≤ 20) : (ws.map (·.length)).sum ≤ 20 * ws.length := by
  induction ws with
  | nil => simp
  | cons a l ih =>
    have h1 := h a (by simp)
    have h2 := ih fun p hp => h p (by simp [hp])
    simp only [List.map_cons, List.sum_cons, List.length_cons]
    omega
theorem words_ok {r : Cs} {w : Wk} {f : List Mk} (h1 : ruleOk (cS r) = true) (h2 : wOk (w3 w) = true) (h3 : floorOk r.length f = true) : ∀ p ∈ r :: wkL w :: f.map mkL, p.length ≤ 20 := fun p hp => by
  have h5 := (rule_free h1).2
  rcases List.mem_cons.mp hp with rfl | hp
  · omega
  rcases List.mem_cons.mp hp with rfl | hp
  · exact wkL_len h2
  · obtain ⟨m, hm, rfl⟩ := List.mem_map.mp hp
    exact mkL_len h5 ((floorOk_at h3).2.1 m hm)
theorem joinL_len {s : Cs} {ws : List Cs} : (TL.joinL s ws).length ≤ (ws.map (·.length)).sum + ws.length * s.length := by
  induction ws with
  | nil => simp [TL.joinL]
  | cons a l ih =>
    by_cases c : l = []
    · subst c
      simp [TL.joinL]
    · rw [joinL_cons c]
      simp only [List.length_append, List.map_cons, List.sum_cons, List.length_cons, Nat.succ_mul]
      omega
theorem wrL_len {r : Cs} {w : Wk} {f : List Mk} (h1 : ruleOk (cS r) = true) (h2 : wOk (w3 w) = true) (h3 : floorOk r.length f = true) : (wrL r w f).length ≤ 4300 := by
  have a := joinL_len (s := [32]) (ws := r :: wkL w :: f.map mkL)
  have b := sum_le (words_ok h1 h2 h3)
  have c := (floorOk_at h3).1
  simp only [List.length_cons, List.length_map] at a b
  unfold wrL
  simp only [List.length_nil] at a
  omega
def pw2 (r : Cs) : Option Wk → Option (List Mk) → Option (Cs × Wk × List Mk)
  | some k, some f => some (r, k, f)
  | _, _ => none
theorem prsP_of {t r w : Cs} {ms : List Cs} (h : spC 32 t = r :: w :: ms) : prsP t = pw2 r (wkP w) (allP mkP ms) := by
  unfold prsP
  rw [h]
  simp only
  cases wkP w <;> cases allP mkP ms <;> rfl
theorem prsP_short {t : Cs} (h : (spC 32 t).length < 2) : prsP t = none := by
  unfold prsP
  match hs : spC 32 t with
  | [] => rfl
  | [_] => rfl
  | _ :: _ :: _ => rw [hs] at h; simp only [List.length_cons] at h; omega
theorem rdP_none {t : Cs} (h : prsP t = none) : rdP t = none := by
  unfold rdP
  rw [h]
theorem rdP_some {t r : Cs} {w : Wk} {f : List Mk} (h : prsP t = some (r, w, f)) : rdP t = if okRWF r w f && decide (wrL r w f = t) then some (r, w, f) else none := by
  unfold rdP
  rw [h]
theorem wkP_of {w : Cs} (h : hdP w = true) : wkP w = pm2 (plP w.dropLast) (some (hdI (lastC w))) := by
  unfold wkP
  rw [if_pos h]
  cases plP w.dropLast <;> rfl
theorem wkP_no {w : Cs} (h : hdP w = false) : wkP w = none := by
  unfold wkP
  rw [if_neg (by rw [h]; decide)]
theorem numP_len {w : Cs} {k : Int} (h : numP w = some k) : 1 ≤ w.length := by
  cases w with
  | nil =>
    have e : numP [] = none := by decide +kernel
    rw [e] at h
    cases h
  | cons _ _ => simp
theorem two_len {c : Nat} {x a b : Cs} (h : spC c x = [a, b]) : x.length = a.length + 1 + b.length := by
  have z := join_spC c x
  rw [h] at z
  rw [← z]
  simp [TL.joinL]
  omega
theorem plP_len {w : Cs} {p : Pl} (h : plP w = some p) : 3 ≤ w.length := by
  obtain ⟨a, b, e, _⟩ := two_at h
  rw [plP_of e] at h
  have l := two_len e
  cases h1 : numP a with
  | none => rw [h1] at h; cases h
  | some x =>
    cases h2 : numP b with
    | none => rw [h1, h2] at h; cases h
    | some y =>
      have := numP_len h1
      have := numP_len h2
      omega
theorem mkP_len {w : Cs} {m : Mk} (h : mkP w = some m) : 5 ≤ w.length := by
  obtain ⟨a, b, e, _⟩ := two_at h
  rw [mkP_of e] at h
  have l := two_len e
  cases h1 : plP a with
  | none => rw [h1] at h; cases h
  | some x =>
    cases h2 : numP b with
    | none => rw [h1, h2] at h; cases h
    | some y =>
      have := plP_len h1
      have := numP_len h2
      omega
theorem joinL_ge (c : Nat) : ∀ ws : List Cs, (ws.map fun p => p.length + 1).sum ≤ (TL.joinL [c] ws).length + 1
  | [] => by simp
  | a :: l => by
    by_cases e : l = []
    · subst e
      simp [TL.joinL]
    · rw [joinL_cons e]
      have := joinL_ge c l
      simp only [List.map_cons, List.sum_cons, List.length_append, List.length_cons, List.length_nil]
      omega
theorem sum_ge {ms : List Cs} (h : ∀ p ∈ ms, 5 ≤ p.length) : 6 * ms.length ≤ (ms.map fun p => p.length + 1).sum := by
  induction ms with
  | nil => simp
  | cons a l ih =>
    have h1 := h a (by simp)
    have h2 := ih fun p hp => h p (by simp [hp])
    simp only [List.map_cons, List.sum_cons, List.length_cons]
    omega
theorem allP_all {α : Type} {f : Cs → Option α} : ∀ {ws : List Cs} {l : List α}, allP f ws = some l → ∀ w ∈ ws, ∃ x, f w = some x
  | w :: ws, l, e, p, hp => by
    simp only [allP] at e
    cases h1 : f w with
    | none => rw [h1] at e; cases e
    | some x =>
      cases h2 : allP f ws with
      | none => rw [h1, h2] at e; cases e
      | some xs =>
        rcases List.mem_cons.mp hp with rfl | hp
        · exact ⟨x, h1⟩
        · exact allP_all h2 p hp
theorem allP_len {α : Type} {f : Cs → Option α} : ∀ {ws : List Cs} {l : List α}, allP f ws = some l → l.length = ws.length
  | [], l, e => by cases e; rfl
  | w :: ws, l, e => by
    simp only [allP] at e
    cases h1 : f w with
    | none => rw [h1] at e; cases e
    | some x =>
      cases h2 : allP f ws with
      | none => rw [h1, h2] at e; cases e
      | some xs =>
        rw [h1, h2] at e
        cases e
        simp [allP_len h2]
theorem few_marks {t r x : Cs} {ms : List Cs} {fl : List Mk} (hws : spC 32 t = r :: x :: ms) (h : allP mkP ms = some fl) (hl : t.length ≤ 5000) : fl.length ≤ 1000 := by
  have e1 := allP_len h
  have e2 := sum_ge (ms := ms) fun p hp => by
    obtain ⟨m, hm⟩ := allP_all h p hp
    exact mkP_len hm
  have e3 := joinL_ge 32 (spC 32 t)
  rw [join_spC, hws] at e3
  simp only [List.map_cons, List.sum_cons] at e3
  omega
section
variable {K : PySem.W.Frag} {σ : L2.St} {S : Sit} {δ : List Sl} {tb : TE} {sp : Sp} {E : L2.St → XK} {tr : TA} {ss : List Sl} {X : Ends} {i : Nat} {d e : PyData} {v : V}
theorem st_asgEqS (ha : EvA K tr σ S ss) (k : ∀ vs T, Le S T → Vs K T.G vs ss → sp vs T.H (fun v H => tb σ H fun y H2 => rEqD K v y H2 fun z H3 => gName i z σ H3 X.nx) (E σ)) : tAsg (tOp (rEqD K) (tCallS sp E tr) tb) (gName i) X σ S.H :=
  ha S (Le.refl S) _ fun vs T l o => k vs T l o
theorem eqS_k (hE : Sv K S.G σ δ) (o : Da K S.G v d) (hb : EvD K tb σ S e) (s1 : SeqAt.shaped d = true) (s2 : SeqAt.shaped e = true) (k : ∀ σ' T, Le S T → Sv K T.G σ' (δ.set i (.d (.bool (PyData.eqv d e)))) → X.nx σ' T.H) : (tb σ S.H fun y H2 => rEqD K v y H2 fun z H3 => gName i z σ H3 X.nx) := by
  have z : tAsg (tOp (rEqD K) (tC v) tb) (gName i) X σ S.H := st_asg (s := .d (.bool (PyData.eqv d e))) hE (ev_eqD (ev_c o) hb s1 s2) k
  exact z
theorem ev_cB {b : Bool} : EvD K (tC (.bl b)) σ S (.bool b) := fun T l Q q => q _ T (Le.refl T) (Da.bl b)
end
theorem wr_ascii {r : Cs} {w : Wk} {f : List Mk} (h1 : ruleOk (cS r) = true) (h2 : wOk (w3 w) = true) (h3 : floorOk r.length f = true) : ∀ c ∈ wrL r w f, c < 128 := by
  have num : ∀ {k : Int}, -100 ≤ k ∧ k ≤ 100 → ∀ c ∈ strL k, c < 128 := fun {k} h c hc => by
    have := (num_facts k (nums_mem.mpr h)).2.1 c hc
    omega
  have pl : ∀ {p : Pl}, inF p → ∀ c ∈ plL p, c < 128 := fun {p} h c hc => by
    unfold plL at hc
    rcases List.mem_append.mp hc with hc | hc
    · exact num h.1 c hc
    · rcases List.mem_cons.mp hc with rfl | hc
      · decide
      · exact num h.2 c hc
  have words : ∀ p ∈ r :: wkL w :: f.map mkL, ∀ c ∈ p, c < 128 := fun p hp c hc => by
    rcases List.mem_cons.mp hp with rfl | hp
    · have s := rule_signs h1 c hc
      omega
    rcases List.mem_cons.mp hp with rfl | hp
    · obtain ⟨w1, w2, w3⟩ := w_at h2
      unfold wkL at hc
      rcases List.mem_append.mp hc with hc | hc
      · exact pl w1 c hc
      · rw [List.mem_singleton.mp hc]
        have key : ∀ c ∈ hdL, c < 128 := by decide
        exact key _ (hdC_at w2 w3).1
    · obtain ⟨m, hm, rfl⟩ := List.mem_map.mp hp
      obtain ⟨m1, m2, m3⟩ := mark_at ((floorOk_at h3).2.1 m hm)
      have r5 := (rule_free h1).2
      unfold mkL at hc
      rcases List.mem_append.mp hc with hc | hc
      · exact pl m1 c hc
      · rcases List.mem_cons.mp hc with rfl | hc
        · decide
        · exact num (by omega) c hc
  have key : ∀ ws : List Cs, (∀ p ∈ ws, ∀ c ∈ p, c < 128) → ∀ c ∈ TL.joinL [32] ws, c < 128 := by
    intro ws
    induction ws with
    | nil => intro _ c hc; simp [TL.joinL] at hc
    | cons a l ih =>
      intro h c hc
      by_cases e : l = []
      · subst e
        exact h a (by simp) c (by simpa [TL.joinL] using hc)
      · rw [joinL_cons e] at hc
        rcases List.mem_append.mp hc with hc | hc
        · exact h a (by simp) c hc
        · rcases List.mem_append.mp hc with hc | hc
          · rw [List.mem_singleton.mp hc]; decide
          · exact ih (fun p hp => h p (by simp [hp])) c hc
  exact key _ words
theorem bad3_ok {r : Cs} {w : Wk} {f : List Mk} : bad3 (cS r) (w3 w) f = none ↔ okRWF r w f = true := by
  have e : (cS r).length = r.length := cS_len r
  unfold bad3 okRWF
  rw [e]
  cases h1 : ruleOk (cS r) <;> cases h2 : wOk (w3 w) <;> cases h3 : floorOk r.length f <;> simp [h1]
theorem bad3_kinds {r : Str} {w : List Int} {fl : List Mk} {y : Str} (h : bad3 r w fl = some y) : y ∈ kinds5 := by
  unfold bad3 at h
  split at h
  · cases h; decide
  · split at h
    · cases h; decide
    · split at h
      · cases h; decide
      · cases h
theorem ev_notInS {K : PySem.W.Frag} {σ : L2.St} {S : Sit} {ta tb : TE} {c : Nat} {z : Str} (ha : EvD K ta σ S (.str ⟨#[c]⟩)) (hb : EvD K tb σ S (.str z)) : EvD K (tOp (fun x y H Q => ∃ (c : Nat) (z : Str), x = .str ⟨#[c]⟩ ∧ y = .str z ∧ Q (.bl (!decide (c ∈ z.cps.toList))) H) ta tb) σ S (.bool (!decide (c ∈ z.cps.toList))) :=
  ev_two ha hb fun T v w _ hx hy Q q => by
    have ex := Da.str_eq hx; have ey := Da.str_eq hy
    subst ex ey
    exact ⟨c, z, rfl, rfl, q _ T (Le.refl T) (Da.bl _)⟩
theorem at_c0 {α : Type} (a : α) (l : List α) : L2.atI (a :: l) 0 = some a := by
  rw [atI_nat (by omega) (by simp)]
  rfl
theorem at_c1 {α : Type} (a b : α) (l : List α) : L2.atI (a :: b :: l) 1 = some b := by
  rw [atI_nat (by omega) (by simp)]
  rfl
end MW

set_option Elab.async false
set_option linter.all false
set_option maxRecDepth 100000
set_option maxHeartbeats 4000000
namespace MW
open PySem PySem.Spec PyProof.Rows L2
local macro_rules | `(tactic| walk_at "ev") => `(tactic| first
  | (refine ev_var (by assumption) ?_; rfl)
  | (refine ev_varv (by assumption) ?_; rfl)
  | exact ev_ci
  | exact ev_cs
  | exact ev_cb
  | exact ev_cn
  | exact eb_yes
  | exact ea_nil
  | exact ea_d0
  | exact eo_none
  | (apply ea_cons <;> walk_at "ev")
  | (apply eo_some <;> walk_at "ev")
  | (apply ev_I0 <;> walk_at "ev")
  | (apply ev_B0 <;> walk_at "ev")
  | (apply ev_chain <;> walk_at "ev")
  | (apply ev_neg <;> walk_at "ev")
  | (apply ev_lenL <;> walk_at "ev")
  | (apply ev_lenT <;> walk_at "ev")
  | (apply eb_test <;> walk_at "ev")
  | (apply eb_B <;> walk_at "ev")
  | (apply eb_not <;> walk_at "ev")
  | (apply ev_notV <;> walk_at "ev")
  | (apply ev_tup <;> walk_at "ev")
  | (apply ea_ds <;> walk_at "ev")
  | (apply ev_ixT <;> walk_at "ev")
  | (apply ev_ixL <;> walk_at "ev")
  | (apply ev_eqD <;> walk_at "ev")
  | (apply ev_neD <;> walk_at "ev")
  | (apply ev_inS <;> walk_at "ev")
  | (apply ev_isN <;> walk_at "ev")
  | (apply ev_notN <;> walk_at "ev")
  | (apply ev_andV <;> walk_at "ev")
  | (apply ev_orV <;> walk_at "ev")
  | (apply eb_and <;> walk_at "ev")
  | (apply eb_or <;> walk_at "ev")
  | (apply ev_I <;> walk_at "ev")
  | (apply ev_lenS <;> walk_at "ev")
  | (apply ev_all <;> walk_at "ev")
  | (apply ev_any <;> walk_at "ev")
  | (intro _; walk_at "ev")
  | rfl
  | (with_reducible assumption)
  | decide
  | omega)
theorem sc_written : FnScope ["rule", "walker", "floor", "words", "x", "y", "colour"] ["rule", "walker", "floor"] (defScope (top 18)) := ⟨rfl, rfl, rfl, by decide +kernel, rfl, by decide +kernel, by decide +kernel⟩
theorem sc_read : FnScope ["text", "words", "rule", "walker", "floor", "word", "good"] ["text"] (defScope (top 22)) := ⟨rfl, rfl, rfl, by decide +kernel, rfl, by decide +kernel, by decide +kernel⟩
section
variable {P : Program} {w : World} {K : PySem.W.Frag} {mg : Str → Option Value} {base : Heap}
theorem k_written (T : Tx K mg) (D : Def K mg "written" (top 18)) (F_look_all : FnK P w K mg base 2 "look_all" ["rule", "walker", "floor"] (sp_look_all K)) : FnK P w K mg base 3 "written" ["rule", "walker", "floor"] (sp_written K) := by
  refine fn_mk D sc_written (fun vs H Q E h => ?_) (fun _ _ _ _ _ _ us hl => match us, hl with | [_, _, _], _ => rfl) (fun f cdv A outer s H vs Q E hr h => ?_)
  · obtain ⟨S, r, wl, fl, rfl, hv, _⟩ := h
    exact hv.len
  obtain ⟨S, r, wl, fl, rfl, hv, hz, h1, h2⟩ := h
  refine ⟨_, (pss_cons (ps_expr (pe_fn F_look_all (hr.mono (by decide)) (passes_call (takes_of rfl rfl rfl rfl) (fun _ _ _ _ h => h)) (pa_cons (pv 0) (pa_cons (pv 1) (pa_cons (pv 2) pa_nil)))))
      (pss_cons (ps_set (i := 3) sc_written.nd rfl (Or.inl rfl) (pe_lst (pa_cons (pv 0) (pa_cons (pe_op op_add_str (pe_op op_add_str (pe_op op_add_str (pe_callTy call_str_int (by rfl) T.str (by decide +kernel) (pa_cons (pe_ix (kx_tup (K := K)) (pv 1) pe_int (fun _ _ => rfl)) pa_nil)) pe_str) (pe_callTy call_str_int (by rfl) T.str (by decide +kernel) (pa_cons (pe_ix (kx_tup (K := K)) (pv 1) pe_int (fun _ _ => rfl)) pa_nil))) (pe_ix ix_str (pe_kstr T.HEADINGS) (pe_ix (kx_tup (K := K)) (pv 1) pe_int (fun _ _ => rfl)) (fun _ _ => rfl))) pa_nil))))
      (pss_cons (ps_expr (kpe_bm (K := K) rfl PySem.F.plainAttrs_list PySem.F.slot_list_extend PySem.F.type_list_extend mt_extend (pv 3) (pa_cons (pe_lc (own := [("x", 4), ("y", 5), ("colour", 6)]) rfl sc_written.nd (kpi_list (K := K) (pv 2)) (blkOk_by (N := ["rule", "walker", "floor", "words", "x", "y", "colour"]) (sc := defScope (top 18)) (by decide +kernel)) (fun _ _ _ _ _ => (kpg_tup (K := K) (n := 3) rfl (pgs_cons (pg_name (i := 4) sc_written.nd rfl (Or.inl rfl)) (pgs_cons (pg_name (i := 5) sc_written.nd rfl (Or.inl rfl)) (pgs_cons (pg_name (i := 6) sc_written.nd rfl (Or.inl rfl)) pgs_nil))))) (fun _ _ _ _ _ => pts_nil) (fun _ _ _ _ _ => (pe_op op_add_str (pe_op op_add_str (pe_op op_add_str (pe_op op_add_str (pe_callTy call_str_int (by rfl) T.str (by decide +kernel) (pa_cons (pv 4) pa_nil)) pe_str) (pe_callTy call_str_int (by rfl) T.str (by decide +kernel) (pa_cons (pv 5) pa_nil))) pe_str) (pe_callTy call_str_int (by rfl) T.str (by decide +kernel) (pa_cons (pv 6) pa_nil))))) pa_nil)))
      (pss_one (ps_ret (kp_join (K := K) rfl pe_str (pv 3))))))), ?_⟩
  have hE := Sv.start (N := ["rule", "walker", "floor", "words", "x", "y", "colour"]) (n := 4) hv rfl
  refine st_look (K := K) (r := cS r) (w := wl) (fl := fl) (ea_cons (ev_var hE rfl) (ea_cons (ev_var hE rfl) (ea_cons (ev_var hE rfl) ea_nil))) hz (fun e T1 l1 => ?_) (fun y e T l => h1 y e T l)
  obtain ⟨hro, hwo, hfo⟩ := bad3_at e
  obtain ⟨wk, rfl, hx, hy, hh⟩ := wOk_at hwo
  rw [cS_len] at hfo
  obtain ⟨f1, f2, f3⟩ := floorOk_at hfo
  have r5 := (rule_free hro).2
  have hE1 := hE.up l1.g
  clear hE
  dsimp only
  have sx := strL_len hx
  have sy := strL_len hy
  refine st_own (K := K) (ds := [.str (cS r), .str (cS (wkL wk))]) hE1 (ea_cons (ev_var hE1 rfl) (ea_cons (ev_is (ev_addC (a := (strL wk.1 ++ [44]) ++ strL wk.2.1) (b := [hdC wk.2.2]) (ev_addC (a := strL wk.1 ++ [44]) (ev_addC (ev_strL (ev_ixT (ds := [.int wk.1, .int wk.2.1, .int wk.2.2]) (ev_var hE1 rfl) ev_ci rfl) hx) (ev_lit lit_comma) (by show _ + 1 ≤ _; omega)) (ev_strL (ev_ixT (ds := [.int wk.1, .int wk.2.1, .int wk.2.2]) (ev_var hE1 rfl) ev_ci rfl) hy) (by simp only [List.length_append, List.length_cons, List.length_nil]; omega)) (ev_ixS (z := cS hdL) (ev_lit lit_hd) (ev_ixT (ds := [.int wk.1, .int wk.2.1, .int wk.2.2]) (ev_var hE1 rfl) ev_ci rfl) (hd_at hh.1 hh.2) (by decide)) (by simp only [List.length_append, List.length_cons, List.length_nil]; omega)) (by unfold wkL plL plW; simp)) ea_nil)) (by show 2 ≤ _; decide) fun p σ2 T2 l2 np w2 hE2 => ?_
  clear hE1
  have hpS : S.H p = none := by
    cases e : S.H p with
    | none => rfl
    | some o => exact absurd rfl (np p o (l1.2.1 _ _ e))
  dsimp only
  refine st_ext (ev_varv hE2 rfl) w2 (es := (fl.map mkL).map fun q => .str (cS q)) ?_ (by rw [List.length_map, List.length_map]; show 2 + _ ≤ _; omega) fun T3 l3 w3' => ?_
  · rw [List.map_map]
    refine ev_lcm (xs := fl) (enc := eM) hE2 (ei_list (ev_var hE2 rfl)) (fun m => [(4, .int m.1), (5, .int m.2.1), (6, .int m.2.2)]) _ (fun m _ => tg_tup3) (fun m _ q hq => by simp at hq; rcases hq with rfl | rfl | rfl <;> simp) (fun m hm σ' T' l' hE' => ?_) (by omega)
    obtain ⟨⟨m1, m2⟩, m3, m4⟩ := mark_at (f2 m hm)
    have s1 := strL_len m1
    have s2 := strL_len m2
    have m5 : -100 ≤ m.2.2 ∧ m.2.2 ≤ 100 := by omega
    have s3 := strL_len m5
    exact ev_is (ev_addC (a := ((strL m.1 ++ [44]) ++ strL m.2.1) ++ [58]) (ev_addC (a := (strL m.1 ++ [44]) ++ strL m.2.1) (ev_addC (a := strL m.1 ++ [44]) (ev_addC (ev_strL (ev_var hE' rfl) m1) (ev_lit lit_comma) (by show _ + 1 ≤ _; have : (strL m.1).length ≤ 4 := s1; omega)) (ev_strL (ev_var hE' rfl) m2) (by simp only [List.length_append, List.length_cons, List.length_nil]; have : (strL m.1).length ≤ 4 := s1; have : (strL m.2.1).length ≤ 4 := s2; omega)) (ev_lit lit_colon) (by simp only [List.length_append, List.length_cons, List.length_nil]; have : (strL m.1).length ≤ 4 := s1; have : (strL m.2.1).length ≤ 4 := s2; omega)) (ev_strL (ev_var hE' rfl) m5) (by simp only [List.length_append, List.length_cons, List.length_nil]; have : (strL m.1).length ≤ 4 := s1; have : (strL m.2.1).length ≤ 4 := s2; omega)) (by show _ = PyData.str (cS (mkL m)); unfold mkL plL plOf; simp)
  have hE3 := hE2.up l3.g
  clear hE2
  dsimp only
  obtain ⟨Ta, a1, a2, a3, a4⟩ := w3'.give
  have la : Le S Ta := by
    have z : Lm [] S T3 := (lm_le (l1.trans l2) l3 hpS).lm []
    have y := Lm.keepG z a1 a2 a4 hpS
    exact ⟨y.1, fun q o h => y.2.1 q o (by simp) h, y.2.2⟩
  have hEa := Sv.give (i := 3) a3 (hE3.up a2) rfl
  rw [← a1]
  have wo := words_ok hro hwo hfo
  have sm := sum_le wo
  refine st_ret (K := K) (S := Ta) (s := .d (.str (cS (wrL r wk fl)))) (ev_joinC (ws := r :: wkL wk :: fl.map mkL) (ev_lit lit_blank) (ev_var hEa rfl) (by simp only [List.length_cons, List.length_map, List.length_nil] at sm ⊢; omega)) fun v T4 l4 o => h2 e wk rfl v T4 (la.trans l4) o
theorem k_read (T : Tx K mg) (D : Def K mg "read" (top 22)) (F_place_in : FnK P w K mg base 2 "place_in" ["word"] (sp_place_in K)) (F_mark_in : FnK P w K mg base 3 "mark_in" ["word"] (sp_mark_in K)) (F_written : FnK P w K mg base 3 "written" ["rule", "walker", "floor"] (sp_written K)) : FnK P w K mg base 4 "read" ["text"] (sp_read K) := by
  refine fn_mk D sc_read (fun vs H Q E h => ?_) (fun _ _ _ _ _ _ us hl => match us, hl with | [_], _ => rfl) (fun f cdv A outer s H vs Q E hr h => ?_)
  · obtain ⟨S, t, rfl, hv, _⟩ := h
    exact hv.len
  obtain ⟨S, t, rfl, hv, hl, hc, h1, h2⟩ := h
  refine ⟨_, (pss_cons (ps_set (i := 1) sc_read.nd rfl (Or.inl rfl) (pe_split (pv 0) pe_str))
      (pss_cons (ps_if (PW.pt (pw_or (pt_cmpR op_lt (pe_callB (kr_len (K := K)) (by rfl) T.len (by decide +kernel) (pa_cons (pv 1) pa_nil)) pe_int (nomark _)) (pw_or (pt_cmpR (kr_eqD (K := K) hr.units) (pe_ix (kx_list (K := K)) (pv 1) pe_int (fun _ _ => rfl)) pe_str (nomark _)) (pw_or1 (pt_cmpR op_notIn_sign (pe_ix ix_str (pe_ix (kx_list (K := K)) (pv 1) pe_int (fun _ _ => rfl)) (pe_un un_neg pe_int) (fun _ _ => rfl)) (pe_kstr T.HEADINGS) (by rfl)))))) (pss_one (ps_rz T.BadText rfl rfl rfl rfl rfl)) pss_nil)
      (pss_cons (ps_set (i := 2) sc_read.nd rfl (Or.inl rfl) (pe_ix (kx_list (K := K)) (pv 1) pe_int (fun _ _ => rfl)))
      (pss_cons (ps_set (i := 3) sc_read.nd rfl (Or.inl rfl) (pe_op (kr_catT (K := K)) (pe_fn F_place_in (hr.mono (by decide)) (passes_call (takes_of rfl rfl rfl rfl) (fun _ _ _ _ h => h)) (pa_cons (pe_slice sl_str (pe_ix (kx_list (K := K)) (pv 1) pe_int (fun _ _ => rfl)) po_none (po_some (pe_un un_neg pe_int))) pa_nil)) (pe_tup (pa_cons (pe_m1 PySem.F.slot_str_index PySem.F.type_str_index mt_sindex (pe_kstr T.HEADINGS) (pe_ix ix_str (pe_ix (kx_list (K := K)) (pv 1) pe_int (fun _ _ => rfl)) (pe_un un_neg pe_int) (fun _ _ => rfl))) pa_nil))))
      (pss_cons (ps_setLcX rfl rfl (takes_of rfl rfl rfl rfl) (fun _ _ _ _ h => h) (i := 4) (own := [("word", 5)]) rfl sc_read.nd rfl rfl (sw_true rfl rfl rfl (by decide +kernel)) (kpi_list (K := K) (pe_slice (ks_list (K := K)) (pv 1) (po_some pe_int) po_none)) (blkOk_by (N := ["text", "words", "rule", "walker", "floor", "word", "good"]) (sc := defScope (top 22)) (by decide +kernel)) (fun _ _ _ _ _ => (pg_name (i := 5) sc_read.nd rfl (Or.inl rfl))) (fun _ _ _ _ _ => pts_nil) (fun _ _ _ _ _ _ _ ps => (pe_fn F_mark_in (hr.mono (by decide)) ps (pa_cons (pv 5) pa_nil))))
      (pss_cons (ps_set (i := 6) sc_read.nd rfl (Or.inl rfl) pe_bl)
      (pss_cons (ps_try_only rfl rfl ⟨rfl, by decide, Or.inl T.MarkError.g⟩ (takes_of rfl rfl rfl rfl) (fun W pn xe tk _ => (pss_one (ps_set (i := 6) sc_read.nd rfl (Or.inl rfl) (pe_cmpR (kr_eqD (K := K) hr.units) (pe_fnS F_written (hr.mono (by decide)) tk (pa_cons (pv 2) (pa_cons (pv 3) (pa_cons (pv 4) pa_nil)))) (pv 0) (nomark _))))) (fun a oe cls d pn _ _ => (pss_one (ps_set (i := 6) sc_read.nd rfl (Or.inl rfl) pe_bl))))
      (pss_cons (ps_if (pt_not (pt_val (pv 6))) (pss_one (ps_rz T.BadText rfl rfl rfl rfl rfl)) pss_nil)
      (pss_one (ps_ret (pe_tup (pa_cons (pv 2) (pa_cons (pv 3) (pa_cons (pv 4) pa_nil)))))))))))))), ?_⟩
  have hE := Sv.start (N := ["text", "words", "rule", "walker", "floor", "word", "good"]) (n := 6) hv rfl
  refine st_asg (s := .d (eTs (spC 32 t))) hE (ev_split (ev_var hE rfl) (ev_lit lit_blank) (by decide) (by omega)) fun σ1 T1 l1 hE1 => ?_
  clear hE
  dsimp only
  have wl := spC_len 32 t
  have lenE : EvD K (tCB (rLen K) (tCons (tVar 1) tNil)) σ1 T1 (.int ((spC 32 t).length : Nat)) := ev_is (ev_lenL (ds := (spC 32 t).map fun p => .str (cS p)) (ev_var hE1 rfl)) (by rw [List.length_map])
  by_cases short : (spC 32 t).length < 2
  · apply st_if (K := K) (b := true)
    case hb => exact eb_is (eb_or (a := true) (b := true) (eb_test (ev_is (ev_B0 (f := fun i j => decide (i < j)) lenE ev_ci) (by rw [decide_eq_true (by omega)]))) (fun e => nomatch e)) rfl
    case h2 => exact fun e => nomatch e
    exact fun _ T2 l2 => h1 (rdP_none (prsP_short short)) T2 (l1.trans l2)
  obtain ⟨r, x, ms, hws⟩ : ∃ r x ms, spC 32 t = r :: x :: ms := by
    match hs : spC 32 t with
    | [] => rw [hs] at short; exact absurd (by decide) short
    | [_] => rw [hs] at short; exact absurd (by show 1 < 2; decide) short
    | r :: x :: ms => exact ⟨r, x, ms, rfl⟩
  have prs := prsP_of hws
  have mr := spC_mem (c := 32) (w := t) (p := r) (by rw [hws]; simp)
  have mx' := spC_mem (c := 32) (w := t) (p := x) (by rw [hws]; simp)
  have mm : ∀ p ∈ ms, _ := fun p hp => spC_mem (c := 32) (w := t) (p := p) (by rw [hws]; simp [hp])
  have ix0 : L2.atI ((spC 32 t).map fun p => PyData.str (cS p)) 0 = some (.str (cS r)) := by rw [hws]; exact at_c0 _ _
  have ix1 : L2.atI ((spC 32 t).map fun p => PyData.str (cS p)) 1 = some (.str (cS x)) := by rw [hws]; exact at_c1 _ _ _
  have w1 : ∀ {σ : L2.St} {S : Sit} {δ : List Sl}, Sv K S.G σ δ → δ[1]? = some (.d (eTs (spC 32 t))) → EvD K (tOp (rIxL K) (tVar 1) (tC (.int 1))) σ S (.str (cS x)) := fun {σ S δ} hE e => ev_ixL (ds := (spC 32 t).map fun p => .str (cS p)) (ev_var hE e) ev_ci ix1
  have wlast : x ≠ [] → ∀ {σ : L2.St} {S : Sit} {δ : List Sl}, Sv K S.G σ δ → δ[1]? = some (.d (eTs (spC 32 t))) → EvD K (tOp rIxS (tOp (rIxL K) (tVar 1) (tC (.int 1))) (tUn (rU fun i => .int (-i)) (tC (.int 1)))) σ S (.str (cS [lastC x])) := fun ne {σ S δ} hE e => ev_ixS (i := -1) (w1 hE e) (ev_neg ev_ci) (at_lastS ne) (by rw [cS_len]; omega)
  apply st_if (K := K) (b := !hdP x)
  case hb =>
    refine eb_is (eb_or (a := false) (b := decide (x = []) || !decide (lastC x ∈ hdL)) (eb_test (ev_is (ev_B0 (f := fun i j => decide (i < j)) lenE ev_ci) (by rw [decide_eq_false (by omega)]))) fun _ => eb_or (eb_test (ev_is (ev_eqD (w1 hE1 rfl) (ev_lit lit_empty) ((shp_cs fun c h => hc c (mx'.1 c h)).to (by decide)) ((shp_cs (by decide)).to (by decide))) (by rw [eqv_cs]))) fun ne => eb_test (ev_is (ev_notInS (wlast (of_decide_eq_false ne) hE1 rfl) (ev_lit lit_hd)) rfl)) ?_
    unfold hdP
    rw [Bool.false_or, Bool.not_and, Bool.not_not]
    congr 1
    cases x <;> rfl
  case h1 =>
    intro e T2 l2
    exact h1 (rdP_none (by rw [prs, wkP_no (not_t e)]; cases allP mkP ms <;> rfl)) T2 (l1.trans l2)
  intro e T2 l2
  have hhd := not_f e
  have ne : x ≠ [] := fun z => by
    rw [z] at hhd
    exact absurd hhd (by decide)
  have hdm : lastC x ∈ hdL := by
    unfold hdP at hhd
    rw [Bool.and_eq_true] at hhd
    exact of_decide_eq_true hhd.2
  have hE2 := hE1.up l2.g
  clear hE1 lenE
  dsimp only [tNext]
  refine st_asg (s := .d (.str (cS r))) hE2 (ev_ixL (ds := (spC 32 t).map fun p => .str (cS p)) (ev_var hE2 rfl) ev_ci ix0) fun σ3 T3 l3 hE3 => ?_
  clear hE2
  dsimp only
  -- walker
  refine st_asgR hE3 (evr_cat1 (p := plP x.dropLast) (c := some (hdI (lastC x))) (evr_spTx (w := x.dropLast) (ea_cons (ev_is (ev_slS (w1 hE3 rfl) eo_none (eo_some (ev_neg ev_ci)) (by rw [cS_len]; omega)) (by rw [cut_initS])) ea_nil) (by rw [List.length_dropLast]; omega) (fun c h => hc c (mx'.1 c (List.dropLast_subset _ h)))) (evr_ev (ev_sidx (ev_lit lit_hd) (wlast ne hE3 rfl) hdm))) (fun e T l => ?_) fun d ed σ4 T4 l4 hE4 => ?_
  · refine h1 (rdP_none ?_) T (((l1.trans l2).trans l3).trans l)
    rw [prs, wkP_of hhd]
    cases hp : pm2 (plP x.dropLast) (some (hdI (lastC x))) with
    | none => cases allP mkP ms <;> rfl
    | some m => rw [hp] at e; cases e
  obtain ⟨wk, hwk, rfl⟩ := Option.map_eq_some_iff.mp ed
  have hwk' : wkP x = some wk := (wkP_of hhd).trans hwk
  clear hE3
  dsimp only
  have lL := ((l1.trans l2).trans l3).trans l4
  -- floor
  have cutw : cutD ((spC 32 t).map fun p => PyData.str (cS p)) (some 2) none = ms.map fun p => PyData.str (cS p) := by
    rw [cut_from (by decide), hws]
    rfl
  refine st_asgR hE4 (evr_lc (xs := ms) (enc := fun p => .str (cS p)) hE4 (ei_list (ev_is (ev_slL (ds := (spC 32 t).map fun p => .str (cS p)) (ev_var hE4 rfl) (eo_some ev_ci) eo_none) (by rw [cutw]))) (fun p => [(5, .str (cS p))]) (fun p => (mkP p).map eM) (fun p _ => tg_name) (fun p _ q hq => by simp at hq; subst hq; simp) (fun p hp σ' T' l' hE' => evr_spTx (w := p) (ea_cons (ev_var hE' rfl) ea_nil) (by have := (mm p hp).2; omega) (fun c h => hc c ((mm p hp).1 c h))) (by have : (spC 32 t).length = ms.length + 2 := (by rw [hws]; rfl); omega)) (fun e T l => ?_) fun d ed2 σ5 T5 l5 hE5 => ?_
  · refine h1 (rdP_none ?_) T (lL.trans l)
    rw [prs, hwk']
    rw [allO_mk] at e
    cases hp : allP mkP ms with
    | none => rfl
    | some f => rw [hp] at e; cases e
  rw [allO_mk] at ed2
  obtain ⟨ds, hds, rfl⟩ := Option.map_eq_some_iff.mp ed2
  obtain ⟨fl, hfl, rfl⟩ := Option.map_eq_some_iff.mp hds
  have prs2 : prsP t = some (r, wk, fl) := by rw [prs, hwk', hfl]; rfl
  have rdt := rdP_some prs2
  clear hE4
  dsimp only
  -- good
  refine st_asg (s := .d (.bool true)) hE5 ev_cB fun σ6 T6 l6 hE6 => ?_
  have lL6 := (lL.trans l5).trans l6
  clear hE5
  dsimp only
  have fln := few_marks hws hfl hl
  have hz : Sz (cS r) (w3 wk) fl := ⟨by rw [cS_len]; omega, by show 3 ≤ _; decide, fln⟩
  have hE6 : Sv K T6.G σ6 [.d (.str (cS t)), .d (eTs (spC 32 t)), .d (.str (cS r)), .d (eW3 wk), .d (eF fl), .non, .d (.bool true)] := hE6
  refine st_asgEqS (ss := [.d (.str (cS r)), .d (eW3 wk), .d (eF fl)]) (ea_cons (ev_var hE6 rfl) (ea_cons (ev_var hE6 rfl) (ea_cons (ev_var hE6 rfl) ea_nil))) fun vs T7 l7 hv7 => ?_
  have lL7 := lL6.trans l7
  refine ⟨T7, r, w3 wk, fl, rfl, hv7, hz, fun y ey T8 l8 => ?_, fun eok wk' ew v T8 l8 o => ?_⟩
  · have hme : PySem.W.exmOne K (.ref (He.ga K y)) (.ref (He.ga K "MarkError")) = some true := T.kits.me y (bad3_kinds ey)
    refine ⟨true, hme, fun _ a ha => ?_, fun e => nomatch e⟩
    refine st_asg (S := T8) (s := .d (.bool false)) (hE6.up (l7.trans l8).g) ev_cB fun σ9 T9 l9 hE9 => ?_
    dsimp only
    apply st_if (K := K) (b := true)
    case hb => exact eb_is (eb_not (eb_B (ev_var hE9 rfl))) rfl
    case h2 => exact fun e => nomatch e
    intro _ T10 l10
    refine h1 ?_ T10 (((lL7.trans l8).trans l9).trans l10)
    rw [rdt, if_neg]
    intro c
    rw [Bool.and_eq_true] at c
    rw [bad3_ok.mpr c.1] at ey
    cases ey
  · cases w3_inj ew
    have hok := bad3_ok.mp eok
    obtain ⟨k1, k2, k3⟩ := okRWF_at hok
    refine eqS_k (S := T8) (hE6.up (l7.trans l8).g) o (ev_var (hE6.up (l7.trans l8).g) rfl) ((shp_cs (wr_ascii k1 k2 k3)).to (by decide)) ((shp_cs hc).to (by decide)) fun σ9 T9 l9 hE9 => ?_
    rw [eqv_cs] at hE9
    have lL9 := (lL7.trans l8).trans l9
    dsimp only
    apply st_if (K := K) (b := !decide (wrL r wk fl = t))
    case hb => exact eb_not (eb_B (ev_var hE9 rfl))
    case h1 =>
      intro e T10 l10
      refine h1 ?_ T10 (lL9.trans l10)
      rw [rdt, not_t e, Bool.and_false]
      rfl
    intro e T10 l10
    have hE10 := hE9.up l10.g
    dsimp only [tNext]
    refine st_ret (K := K) (s := .d (eRWF (r, wk, fl))) (ev_tup (ds := [.str (cS r), eW3 wk, eF fl]) (ea_ds (ev_var hE10 rfl) (ea_ds (ev_var hE10 rfl) (ea_ds (ev_var hE10 rfl) ea_d0))) (by show 3 ≤ _; decide)) fun v T11 l11 o => h2 (r, wk, fl) ?_ v T11 ((lL9.trans l10).trans l11) o
    rw [rdt, hok, not_f e]
    rfl
end

end MW

set_option Elab.async false
set_option linter.all false
set_option maxRecDepth 100000
set_option maxHeartbeats 4000000
namespace MW
open PySem PySem.Spec PyProof.Rows L2
set_option autoImplicit false
/-! ### promises of the law's own -/
def told40 (t : Cs) : PyData := match lawR t with
  | some x => eRWF x
  | none => eRef "BadText"
def sp_told40 (K : PySem.W.Frag) : Sp := fun vs H Q _ => ∃ (S : Sit) (t : Cs), S.H = H ∧ Vs K S.G vs [.d (.str (cS t))] ∧ t.length ≤ 5000 ∧ (∀ c ∈ t, c < 128) ∧ ∀ v T, Le S T → Da K T.G v (told40 t) → Q v T.H
def sp__law_place (K : PySem.W.Frag) : Sp := fun vs H Q _ => ∃ (S : Sit) (x : Cs), S.H = H ∧ Vs K S.G vs [.d (.str (cS x))] ∧ x.length ≤ 10000 ∧ ∀ v T, Le S T → Da K T.G v (match plQ x with | some p => eP p | none => .none) → Q v T.H
/-- the law's dict of numbers -/
def ndKV (ks : List Int) : List (L2.Key × V) := ks.map fun k => (.inr (cS (strL k)), .int k)
def Nd (S : Sit) (p : Addr) (ks : List Int) : Prop := S.G p = none ∧ S.H p = some (.dK (ndKV ks))
section
variable {K : PySem.W.Frag} {σ : L2.St} {S T : Sit} {p : Addr} {ks : List Int} {td ty tv : TE} {w : Cs} {k : Int} {X : Ends} {δ : List Sl}
theorem Nd.up (h : Nd S p ks) (l : Le S T) : Nd T p ks := ⟨(l.2.2 p _ h.2).trans h.1, l.2.1 p _ h.2⟩
theorem st_ndN {i : Nat} (hE : Sv K S.G σ δ) (k : ∀ p σ' T, Le S T → Nw S p → Nd T p [] → Sv K T.G σ' (δ.set i (.v (.ref p))) → X.nx σ' T.H) : tAsg tDNewK (gName i) X σ S.H := fun p hp => by
  refine k p _ (S.pushM p (.dK []) hp) (S.pushM_le hp) (fun q o hq z => by rw [z, hp] at hq; cases hq) ⟨S.gfree hp, upd_same⟩ (Sv.set (slOk_v _) i hE)
theorem key_cs (a b : Cs) : decide ((Sum.inr (cS a) : L2.Key) = Sum.inr (cS b)) = (a == b) := by
  by_cases h : a = b
  · subst h
    simp
  · rw [decide_eq_false (fun z => h (SX.S_inj (Sum.inr.inj z)))]
    simp [h]
theorem val_nd (ks : List Int) (w : Cs) : valV (ndKV ks) (.inr (cS w)) = (ks.find? fun k => strL k == w).map V.int := by
  unfold valV ndKV
  induction ks with
  | nil => rfl
  | cons q D ih =>
    rw [List.map_cons, List.find?_cons, List.find?_cons, key_cs]
    cases strL q == w with
    | true => rfl
    | false => exact ih
theorem put_nd {ks : List Int} {k : Int} (h : ∀ j ∈ ks, strL j ≠ strL k) : putK (ndKV ks) (.inr (cS (strL k))) (.int k) = ndKV (ks ++ [k]) := by
  unfold putK
  have e : ((ndKV ks).any fun kv => decide (kv.1 = (.inr (cS (strL k)) : L2.Key))) = false := by
    unfold ndKV
    rw [List.any_map, List.any_eq_false]
    intro j hj
    show ¬ decide ((Sum.inr (cS (strL j)) : L2.Key) = Sum.inr (cS (strL k))) = true
    rw [key_cs]
    simpa using h j hj
  rw [e]
  unfold ndKV
  rw [List.map_append]
  rfl
theorem st_ndput (hv : EvD K tv σ S (.int k)) (hd : Ev K td σ S (.v (.ref p))) (hk : EvD K ty σ S (.str (cS (strL k)))) (hD : Nd S p ks) (hl : ks.length < 900000) (hn : ∀ j ∈ ks, strL j ≠ strL k) (kk : ∀ T, Lm [p] S T → Nd T p (ks ++ [k]) → X.nx σ T.H) : sDPut td ty tv X σ S.H :=
  hv S (Le.refl S) _ fun v U1 l1 o1 => hd U1 l1 _ fun x U2 l2 o2 => by
    cases (show some x = some (V.ref p) from o2)
    refine hk U2 (l1.trans l2) _ fun y U3 l3 o3 => ?_
    have ey := Da.str_eq o3
    have ev := Da.int_eq o1
    subst ey ev
    have l := (l1.trans l2).trans l3
    have h3 := hD.up l
    refine ⟨p, _, rfl, DPut.k (k := .inr (cS (strL k))) h3.2 (szl (by unfold ndKV; rw [List.length_map]; omega)), ?_⟩
    rw [put_nd hn]
    have lm : Lm [p] U3 (U3.mut p (.dK (ndKV (ks ++ [k]))) h3.1) := ⟨Same.refl _, fun x u hx e => by
      show upd U3.H p _ x = some u
      rw [upd_ne (fun z => hx (by simp [z]))]
      exact e, fun _ _ _ => rfl⟩
    exact kk (U3.mut p (.dK (ndKV (ks ++ [k]))) h3.1) ((l.lm []).transM lm (fun x hx => by simp at hx; subst hx; exact ⟨_, h3.2⟩) (fun x hx => nomatch hx)) ⟨h3.1, upd_same⟩
theorem ev_ndnot (hk : EvD K ty σ S (.str (cS w))) (hd : Ev K td σ S (.v (.ref p))) (hD : Nd S p nums) : EvD K (tDNotIn ty td) σ S (.bool (!(numQ w).isSome)) := fun T l Q q =>
  hk T l _ fun y U lU oU => hd U (l.trans lU) _ fun v W lW o => by
    cases (show some v = some (V.ref p) from o)
    have ey := Da.str_eq oU
    subst ey
    refine ⟨p, _, rfl, DGet.k (k := .inr (cS w)) (hD.up ((l.trans lU).trans lW)).2, ?_⟩
    rw [val_nd, Option.isSome_map]
    exact q _ W (lU.trans lW) (Da.bl _)
theorem ev_ndget (hd : Ev K td σ S (.v (.ref p))) (hk : EvD K ty σ S (.str (cS w))) (hD : Nd S p nums) (hc : numQ w = some k) : EvD K (tDGet td ty) σ S (.int k) := fun T l Q q =>
  hd T l _ fun v U lU o => by
    cases (show some v = some (V.ref p) from o)
    refine hk U (l.trans lU) _ fun y W lW oW => ?_
    have ey := Da.str_eq oW
    subst ey
    refine ⟨p, .int k, rfl, ?_, q _ W (lU.trans lW) (Da.int _)⟩
    have z := DGet.k (k := .inr (cS w)) (hD.up ((l.trans lU).trans lW)).2
    rw [val_nd] at z
    unfold numQ at hc
    rw [hc] at z
    exact z
end
def pq2 : Option Int → Option Int → Option Pl := pr2
theorem plQ_of {x a b : Cs} (h : spC 44 x = [a, b]) : plQ x = pr2 (numQ a) (numQ b) := by
  unfold plQ
  rw [h]
  simp only [two]
  cases numQ a <;> cases numQ b <;> rfl
theorem nums_take (n : Nat) (h : n < 201) : nums.take (n + 1) = nums.take n ++ [((n : Nat) : Int) - 100] := by
  unfold nums
  rw [List.take_add_one, List.getElem?_map, List.getElem?_range h]
  rfl
end MW

set_option Elab.async false
set_option linter.all false
set_option maxRecDepth 100000
set_option maxHeartbeats 4000000
namespace MW
open PySem PySem.Spec PyProof.Rows L2
local macro_rules | `(tactic| walk_at "ev") => `(tactic| first
  | (refine ev_var (by assumption) ?_; rfl)
  | (refine ev_varv (by assumption) ?_; rfl)
  | exact ev_ci
  | exact ev_cs
  | exact ev_cb
  | exact ev_cn
  | exact eb_yes
  | exact ea_nil
  | exact ea_d0
  | exact eo_none
  | (apply ea_cons <;> walk_at "ev")
  | (apply eo_some <;> walk_at "ev")
  | (apply ev_I0 <;> walk_at "ev")
  | (apply ev_B0 <;> walk_at "ev")
  | (apply ev_chain <;> walk_at "ev")
  | (apply ev_neg <;> walk_at "ev")
  | (apply ev_lenL <;> walk_at "ev")
  | (apply ev_lenT <;> walk_at "ev")
  | (apply eb_test <;> walk_at "ev")
  | (apply eb_B <;> walk_at "ev")
  | (apply eb_not <;> walk_at "ev")
  | (apply ev_notV <;> walk_at "ev")
  | (apply ev_tup <;> walk_at "ev")
  | (apply ea_ds <;> walk_at "ev")
  | (apply ev_ixT <;> walk_at "ev")
  | (apply ev_ixL <;> walk_at "ev")
  | (apply ev_eqD <;> walk_at "ev")
  | (apply ev_neD <;> walk_at "ev")
  | (apply ev_inS <;> walk_at "ev")
  | (apply ev_isN <;> walk_at "ev")
  | (apply ev_notN <;> walk_at "ev")
  | (apply ev_andV <;> walk_at "ev")
  | (apply ev_orV <;> walk_at "ev")
  | (apply eb_and <;> walk_at "ev")
  | (apply eb_or <;> walk_at "ev")
  | (apply ev_I <;> walk_at "ev")
  | (apply ev_lenS <;> walk_at "ev")
  | (apply ev_all <;> walk_at "ev")
  | (apply ev_any <;> walk_at "ev")
  | (intro _; walk_at "ev")
  | rfl
  | (with_reducible assumption)
  | decide
  | omega)
theorem sc__law_told : FnScope ["text", "caught", "found", "e"] ["text"] (defScope (top 31)) := ⟨rfl, rfl, rfl, by decide +kernel, rfl, by decide +kernel, by decide +kernel⟩
section
variable {P : Program} {w : World} {K : PySem.W.Frag} {mg : Str → Option Value} {base : Heap}
theorem k__law_told (T : Tx K mg) (D : Def K mg "_law_told" (top 31)) (F_read : FnK P w K mg base 4 "read" ["text"] (sp_read K)) (F__law_refusal : FnK P w K mg base 1 "_law_refusal" ["caught"] (sp__law_refusal K)) : FnK P w K mg base 5 "_law_told" ["text"] (sp_told40 K) := by
  refine fn_mk D sc__law_told (fun vs H Q E h => ?_) (fun _ _ _ _ _ _ us hl => match us, hl with | [_], _ => rfl) (fun f cdv A outer s H vs Q E hr h => ?_)
  · obtain ⟨S, t, rfl, hv, _⟩ := h
    exact hv.len
  obtain ⟨S, t, rfl, hv, hl, hc, h1⟩ := h
  refine ⟨_, (pss_cons (ps_set (i := 1) sc__law_told.nd rfl (Or.inl rfl) pe_non)
      (pss_cons (ps_set (i := 2) sc__law_told.nd rfl (Or.inl rfl) pe_non)
      (pss_cons (ps_tryK (i := 3) rfl rfl sc__law_told.nd rfl rfl ⟨rfl, by decide, Or.inl T.MarkError.g⟩ (fun W pn xe tk _ => (pss_one (ps_set (i := 2) sc__law_told.nd rfl (Or.inl rfl) (pe_fnS F_read (hr.mono (by decide)) tk (pa_cons (pv 0) pa_nil))))) (fun a pn => (pss_one (ps_set (i := 1) sc__law_told.nd rfl (Or.inl rfl) (pv 3)))))
      (pss_one (ps_ret (pe_ifExp (pt_cmpR op_isN (pv 1) pe_non (nomark _)) (pv 2) (pe_fn F__law_refusal (hr.mono (by decide)) (passes_call (takes_of rfl rfl rfl rfl) (fun _ _ _ _ h => h)) (pa_cons (pv 1) pa_nil)))))))), ?_⟩
  have hE := Sv.start (N := ["text", "caught", "found", "e"]) (n := 3) hv rfl
  have hme := T.kits.me "BadText" (by decide)
  refine st_asg hE ev_cn fun σ1 T1 l1 hE1 => ?_
  dsimp only
  refine st_asg hE1 ev_cn fun σ2 T2 l2 hE2 => ?_
  have lL := l1.trans l2
  clear hE hE1
  dsimp only
  refine te_callS (K := K) (ss := [.d (.str (cS t))]) (ea_cons (ev_var hE2 rfl) ea_nil) fun vs T3 l3 hv3 => ?_
  have lL3 := lL.trans l3
  have ert := rd_law t
  refine ⟨T3, t, rfl, hv3, hl, hc, fun e U lU => ?_, fun x ex v U lU o => ?_⟩
  · rw [ert] at e
    refine told_bad (S := U) (i := 1) (j := 2) (m := 3) (hE2.up (l3.trans lU).g) rfl rfl (by decide) (by decide) hme rfl fun v W lW o => h1 v W ((lL3.trans lU).trans lW) ?_
    unfold told40
    rw [e]
    exact o
  · rw [ert] at ex
    refine told_ok (Sv.set (slOk_d o) 2 (hE2.up (l3.trans lU).g)) rfl rfl fun v W lW o => h1 v W ((lL3.trans lU).trans lW) ?_
    unfold told40
    rw [ex]
    exact o
end

end MW

set_option Elab.async false
set_option linter.all false
set_option maxRecDepth 100000
set_option maxHeartbeats 4000000
namespace MW
open PySem PySem.Spec PyProof.Rows L2
local macro_rules | `(tactic| walk_at "ev") => `(tactic| first
  | (refine ev_var (by assumption) ?_; rfl)
  | (refine ev_varv (by assumption) ?_; rfl)
  | exact ev_ci
  | exact ev_cs
  | exact ev_cb
  | exact ev_cn
  | exact eb_yes
  | exact ea_nil
  | exact ea_d0
  | exact eo_none
  | (apply ea_cons <;> walk_at "ev")
  | (apply eo_some <;> walk_at "ev")
  | (apply ev_I0 <;> walk_at "ev")
  | (apply ev_B0 <;> walk_at "ev")
  | (apply ev_chain <;> walk_at "ev")
  | (apply ev_neg <;> walk_at "ev")
  | (apply ev_lenL <;> walk_at "ev")
  | (apply ev_lenT <;> walk_at "ev")
  | (apply eb_test <;> walk_at "ev")
  | (apply eb_B <;> walk_at "ev")
  | (apply eb_not <;> walk_at "ev")
  | (apply ev_notV <;> walk_at "ev")
  | (apply ev_tup <;> walk_at "ev")
  | (apply ea_ds <;> walk_at "ev")
  | (apply ev_ixT <;> walk_at "ev")
  | (apply ev_ixL <;> walk_at "ev")
  | (apply ev_eqD <;> walk_at "ev")
  | (apply ev_neD <;> walk_at "ev")
  | (apply ev_inS <;> walk_at "ev")
  | (apply ev_isN <;> walk_at "ev")
  | (apply ev_notN <;> walk_at "ev")
  | (apply ev_andV <;> walk_at "ev")
  | (apply ev_orV <;> walk_at "ev")
  | (apply eb_and <;> walk_at "ev")
  | (apply eb_or <;> walk_at "ev")
  | (apply ev_I <;> walk_at "ev")
  | (apply ev_lenS <;> walk_at "ev")
  | (apply ev_all <;> walk_at "ev")
  | (apply ev_any <;> walk_at "ev")
  | (intro _; walk_at "ev")
  | rfl
  | (with_reducible assumption)
  | decide
  | omega)
theorem sc__law_place : FnScope ["word", "numbers", "k", "sides"] ["word"] (defScope (top 32)) := ⟨rfl, rfl, rfl, by decide +kernel, rfl, by decide +kernel, by decide +kernel⟩
section
variable {P : Program} {w : World} {K : PySem.W.Frag} {mg : Str → Option Value} {base : Heap}
theorem k__law_place (T : Tx K mg) (D : Def K mg "_law_place" (top 32)) : FnK P w K mg base 1 "_law_place" ["word"] (sp__law_place K) := by
  refine fn_mk D sc__law_place (fun vs H Q E h => ?_) (fun _ _ _ _ _ _ us hl => match us, hl with | [_], _ => rfl) (fun f cdv A outer s H vs Q E hr h => ?_)
  · obtain ⟨S, x, rfl, hv, _⟩ := h
    exact hv.len
  obtain ⟨S, x, rfl, hv, hl, h1⟩ := h
  refine ⟨_, (pss_cons (ps_set (i := 1) sc__law_place.nd rfl (Or.inl rfl) pe_dnewK)
      (pss_cons (ps_for (passes_of rfl) rfl (pi_range2 rfl T.range (pa_cons (pe_un un_neg pe_int) (pa_cons pe_int pa_nil))) (pg_name (i := 2) sc__law_place.nd rfl (Or.inl rfl)) (pss_one (ps_dput (hu_of hr) (pv 1) (pe_callTy call_str_int (by rfl) T.str (by decide +kernel) (pa_cons (pv 2) pa_nil)) (pv 2) rfl)))
      (pss_cons (ps_set (i := 3) sc__law_place.nd rfl (Or.inl rfl) (pe_split (pv 0) pe_str))
      (pss_cons (ps_if (PW.pt (pw_or (pt_cmpR (kr_neD (K := K) hr.units) (pe_callB (kr_len (K := K)) (by rfl) T.len (by decide +kernel) (pa_cons (pv 3) pa_nil)) pe_int (nomark _)) (pw_or (pt_cmp (pc_dnotin (hu_of hr) (pe_ix (kx_list (K := K)) (pv 3) pe_int (fun _ _ => rfl)) (pv 1))) (pw_or1 (pt_cmp (pc_dnotin (hu_of hr) (pe_ix (kx_list (K := K)) (pv 3) pe_int (fun _ _ => rfl)) (pv 1))))))) (pss_one (ps_ret pe_non)) pss_nil)
      (pss_one (ps_ret (pe_tup (pa_cons (pe_dget (hu_of hr) (pv 1) (pe_ix (kx_list (K := K)) (pv 3) pe_int (fun _ _ => rfl)) (fun _ _ => rfl)) (pa_cons (pe_dget (hu_of hr) (pv 1) (pe_ix (kx_list (K := K)) (pv 3) pe_int (fun _ _ => rfl)) (fun _ _ => rfl)) pa_nil))))))))), ?_⟩
  have hE := Sv.start (N := ["word", "numbers", "k", "sides"]) (n := 3) hv rfl
  refine st_ndN hE fun p σ1 T1 l1 np d1 hE1 => ?_
  have hpS : S.H p = none := np.none
  clear hE
  dsimp only
  have rg : EvI K (iRng2 (tCons (tUn (rU fun i => .int (-i)) (tC (.int 100))) (tCons (tC (.int 101)) tNil))) σ1 T1 (rngD (-100) 201) := ei_rng2 (i := -100) (j := 101) (ea_cons (ev_neg ev_ci) (ea_cons ev_ci ea_nil)) (by decide)
  apply st_for rg (fun _ n σ' T => n ≤ 201 ∧ Le S T ∧ Nd T p (nums.take n) ∧ Sv K T.G σ' [.d (.str (cS x)), .v (.ref p), .non, .non])
  case h0 => exact fun U l => ⟨by decide, l1.trans l, d1.up l, hE1.up l.g⟩
  case hs =>
    intro U n d σ' T' v lU hk hG hI hv'
    obtain ⟨n201, lI, dI, hEI⟩ := hI
    obtain ⟨hk1, rfl⟩ := rngD_get hk
    refine tg_name v σ' T' _ hv' fun σ6 hE6 _ => ?_
    have hE6 := hE6 _ hEI
    have ek : (-100 + ((n : Nat) : Int)) = ((n : Nat) : Int) - 100 := by omega
    rw [ek] at hE6
    refine st_ndput (k := ((n : Nat) : Int) - 100) (ev_var hE6 rfl) (ev_varv hE6 rfl) (ev_strL (ev_var hE6 rfl) (by omega)) dI (by rw [List.length_take]; omega) (fun j hj e => ?_) fun T8 l8 d8 => ?_
    · have hj2 := nums_mem.mp (List.mem_of_mem_take hj)
      have := strL_inj hj2 (by omega) e
      subst this
      unfold nums at hj
      rw [← List.map_take, List.mem_map] at hj
      obtain ⟨i, hi, e2⟩ := hj
      rw [List.take_range] at hi
      have := List.mem_range.mp hi
      omega
    · exact ⟨T8, rfl, l8.g, by omega, lm_le lI l8 hpS, by rw [nums_take n hk1]; exact d8, (hE6.up l8.g).forget 2⟩
  case hd =>
    intro U σ2 T2 lU hG hI
    rw [rngD_len] at hI
    obtain ⟨_, l2, d2, hE2⟩ := hI
    have d2 : Nd T2 p nums := by
      rw [List.take_of_length_le (show nums.length ≤ 201 by unfold nums; rw [List.length_map, List.length_range]; decide)] at d2
      exact d2
    clear hE1
    dsimp only
    refine st_asg (s := .d (eTs (spC 44 x))) hE2 (ev_split (ev_var hE2 rfl) (ev_lit lit_comma) (by decide) (by omega)) fun σ3 T3 l3 hE3 => ?_
    have d3 := d2.up l3
    clear hE2
    dsimp only
    by_cases e : (spC 44 x).length = 2
    · obtain ⟨a, b, hab⟩ := len_two e
      have ix : ∀ {i : Int} {p : Cs}, L2.atI ([a, b].map fun p => PyData.str (cS p)) i = some (.str (cS p)) → L2.atI ((spC 44 x).map fun p => PyData.str (cS p)) i = some (.str (cS p)) := fun {i p} h => by rw [hab]; exact h
      have hp := plQ_of hab
      have w0 : ∀ {σ : L2.St} {S : Sit} {δ : List Sl}, Sv K S.G σ δ → δ[3]? = some (.d (eTs (spC 44 x))) → EvD K (tOp (rIxL K) (tVar 3) (tC (.int 0))) σ S (.str (cS a)) := fun {σ S δ} hE e => ev_ixL (ds := (spC 44 x).map fun p => .str (cS p)) (ev_var hE e) ev_ci (ix rfl)
      have w1 : ∀ {σ : L2.St} {S : Sit} {δ : List Sl}, Sv K S.G σ δ → δ[3]? = some (.d (eTs (spC 44 x))) → EvD K (tOp (rIxL K) (tVar 3) (tC (.int 1))) σ S (.str (cS b)) := fun {σ S δ} hE e => ev_ixL (ds := (spC 44 x).map fun p => .str (cS p)) (ev_var hE e) ev_ci (ix rfl)
      apply st_if (K := K) (b := !(numQ a).isSome || !(numQ b).isSome)
      case hb => exact eb_is (eb_or (a := false) (eb_test (ev_is (ev_neD (ev_lenL (ds := (spC 44 x).map fun p => .str (cS p)) (ev_var hE3 rfl)) ev_ci rfl rfl) (by rw [eqv_ints, List.length_map, e]; rfl))) fun _ => eb_or (eb_test (ev_ndnot (w0 hE3 rfl) (ev_varv hE3 rfl) d3)) fun _ => eb_test (ev_ndnot (w1 hE3 rfl) (ev_varv hE3 rfl) d3)) (Bool.false_or _)
      case h1 =>
        intro c T4 l4
        refine st_ret (K := K) (s := .d .none) ev_cn fun v T5 l5 o => h1 v T5 (((l2.trans l3).trans l4).trans l5) ?_
        rw [hp]
        cases h1' : numQ a with
        | none => exact o
        | some i =>
          cases h2' : numQ b with
          | none => exact o
          | some j => rw [h1', h2'] at c; cases c
      intro c T4 l4
      have hE4 := hE3.up l4.g
      have d4 := d3.up l4
      clear hE3
      dsimp only [tNext]
      cases h1' : numQ a with
      | none => rw [h1'] at c; cases c
      | some i =>
        cases h2' : numQ b with
        | none => rw [h1', h2'] at c; cases c
        | some j =>
          refine st_ret (K := K) (s := .d (eP (i, j))) (ev_tup (ds := [.int i, .int j]) (ea_ds (ev_ndget (ev_varv hE4 rfl) (w0 hE4 rfl) d4 h1') (ea_ds (ev_ndget (ev_varv hE4 rfl) (w1 hE4 rfl) d4 h2') ea_d0)) (by show 2 ≤ _; decide)) fun v T5 l5 o => h1 v T5 (((l2.trans l3).trans l4).trans l5) ?_
          rw [hp, h1', h2']
          exact o
    · apply st_if (K := K) (b := true)
      case hb => exact eb_is (eb_or (a := true) (b := true) (eb_test (ev_is (ev_neD (ev_lenL (ds := (spC 44 x).map fun p => .str (cS p)) (ev_var hE3 rfl)) ev_ci rfl rfl) (by rw [eqv_ints, List.length_map, decide_eq_false (by omega)]; rfl))) (fun z => nomatch z)) rfl
      case h2 => exact fun z => nomatch z
      intro _ T4 l4
      refine st_ret (K := K) (s := .d .none) ev_cn fun v T5 l5 o => h1 v T5 (((l2.trans l3).trans l4).trans l5) ?_
      have : plQ x = none := by
        unfold plQ
        exact two_none e
      rw [this]
      exact o
end

end MW

set_option Elab.async false
set_option linter.all false
set_option maxRecDepth 100000
set_option maxHeartbeats 4000000
namespace MW
open PySem PySem.Spec PyProof.Rows L2
set_option autoImplicit false
theorem spC_count (c : Nat) (w : Cs) : (spC c w).length = w.count c + 1 := by
  have key : ∀ (t acc : Cs), (TL.spl [c] 0 acc t).length = t.count c + 1 := by
    intro t
    induction t with
    | nil => intro acc; rw [TL.spl_nil]; simp
    | cons x r ih =>
      intro acc
      by_cases h : x = c
      · rw [TL.spl_hit (by rw [pre_one]; exact decide_eq_true h)]
        show (TL.spl [c] 0 [] r).length + 1 = _
        rw [ih, h, List.count_cons_self]
      · rw [TL.spl_miss (by rw [pre_one]; exact decide_eq_false h), ih, List.count_cons_of_ne h]
  exact key w []
theorem allP_none {α : Type} {f : Cs → Option α} : ∀ {xs : List Cs} {x : Cs}, x ∈ xs → f x = none → allP f xs = none
  | y :: l, x, hx, h => by
    rcases List.mem_cons.mp hx with rfl | hx
    · simp only [allP, h]
    · simp only [allP, allP_none hx h]
      cases f y <;> rfl
theorem allP_app {α : Type} {f : Cs → Option α} {x : Cs} {d : α} (h : f x = some d) : ∀ {xs : List Cs} {ds : List α}, allP f xs = some ds → allP f (xs ++ [x]) = some (ds ++ [d])
  | [], ds, e => by
    cases e
    simp only [List.nil_append, allP, h]
  | y :: l, ds, e => by
    simp only [allP] at e
    cases h1 : f y with
    | none => rw [h1] at e; cases e
    | some dy =>
      cases h2 : allP f l with
      | none => rw [h1, h2] at e; cases e
      | some dl =>
        rw [h1, h2] at e
        cases e
        simp only [List.cons_append, allP, h1, allP_app h h2]
def told40N (t : Cs) : PyData := match lawR t with
  | some x => eRWF x
  | none => .none
def sp__law_read (K : PySem.W.Frag) : Sp := fun vs H Q _ => ∃ (S : Sit) (t : Cs), S.H = H ∧ Vs K S.G vs [.d (.str (cS t))] ∧ t.length ≤ 5000 ∧ (∀ c ∈ t, c < 128) ∧ t.count 32 ≤ 250 ∧ ∀ v T, Le S T → Da K T.G v (told40N t) → Q v T.H
section
variable {K : PySem.W.Frag} {σ : L2.St} {S : Sit} {ta tb : TE} {b : Cs} {ws : List Cs}
theorem in_strs (b : Cs) : ∀ ws : List Cs, inV (.str (cS b)) ((ws.map cS).map V.str) = decide (b ∈ ws)
  | [] => rfl
  | w :: ws => by
    have ih := in_strs b ws
    unfold inV at ih ⊢
    rw [List.map_cons, List.map_cons, List.any_cons, ih]
    have e : eqV (.str (cS w)) (.str (cS b)) = decide (w = b) := SX.S_beq_eq
    rw [e]
    by_cases h : w = b
    · subst h; simp
    · have h' : ¬ b = w := fun z => h z.symm
      simp [h, h']
theorem ev_notInL (ha : EvD K ta σ S (.str (cS b))) (hb : EvD K tb σ S (eTs ws)) : EvD K (tOp (rIn K true) ta tb) σ S (.bool (!decide (b ∈ ws))) :=
  ev_two ha hb fun T v w _ hx hy Q q => by
    have ex := Da.str_eq hx
    subst ex
    obtain ⟨p, xs, rfl, e1, e2⟩ := Da.lst_eq hy
    have hy2 : DaAll K T.G xs ((ws.map cS).map PyData.str) := by
      rw [List.map_map]
      exact e2
    have e := DaAll.strsV hy2
    subst e
    refine ⟨p, _, rfl, .inl (SqL.of (T.sub _ _ e1)), rfl, ?_, ?_⟩
    · rw [List.all_map, List.all_eq_true]
      intro x _
      rfl
    · rw [if_pos rfl, in_strs]
      exact q _ T (Le.refl T) (Da.bl _)
end
section
variable {t r x : Cs} {ms : List Cs} {p : Pl} {f : List Mk}
theorem lawR_of (h : spC 32 t = r :: x :: ms) : lawR t = (if hdP x then match plQ x.dropLast with
    | some p => if ruleOk ⟨r.toArray⟩ then match allP (mkQ r.length) ms with
      | some f => if riseB f && decide (f.length ≤ 200) then some (r, (p.1, p.2, hdI (lastC x)), f) else none
      | none => none
      else none
    | none => none
    else none) := by
  unfold lawR
  rw [h]
  try rfl
theorem lawR_short (h : (spC 32 t).length < 2) : lawR t = none := by
  unfold lawR
  match hs : spC 32 t with
  | [] => rfl
  | [_] => rfl
  | _ :: _ :: _ => rw [hs] at h; simp only [List.length_cons] at h; omega
theorem lawR_n1 (h : spC 32 t = r :: x :: ms) (e : hdP x = false) : lawR t = none := by
  rw [lawR_of h, if_neg (by rw [e]; decide)]
theorem lawR_n2 (h : spC 32 t = r :: x :: ms) (e : plQ x.dropLast = none) : lawR t = none := by
  rw [lawR_of h, e]
  split <;> rfl
theorem lawR_n3 (h : spC 32 t = r :: x :: ms) (e : ruleOk (cS r) = false) : lawR t = none := by
  rw [lawR_of h]
  split
  · cases plQ x.dropLast with
    | none => rfl
    | some p =>
      simp only
      rw [if_neg (by rw [e]; decide)]
  · rfl
theorem lawR_n4 (h : spC 32 t = r :: x :: ms) (e : allP (mkQ r.length) ms = none) : lawR t = none := by
  rw [lawR_of h, e]
  split
  · cases plQ x.dropLast with
    | none => rfl
    | some p =>
      simp only
      split <;> rfl
  · rfl
theorem lawR_n5 (h : spC 32 t = r :: x :: ms) (e : allP (mkQ r.length) ms = some f) (e2 : (riseB f && decide (f.length ≤ 200)) = false) : lawR t = none := by
  rw [lawR_of h, e]
  split
  · cases plQ x.dropLast with
    | none => rfl
    | some p =>
      simp only
      split
      · rw [if_neg (by rw [e2]; decide)]
      · rfl
  · rfl
theorem lawR_yes (h : spC 32 t = r :: x :: ms) (e1 : hdP x = true) (e2 : plQ x.dropLast = some p) (e3 : ruleOk (cS r) = true) (e4 : allP (mkQ r.length) ms = some f) (e5 : (riseB f && decide (f.length ≤ 200)) = true) : lawR t = some (r, (p.1, p.2, hdI (lastC x)), f) := by
  rw [lawR_of h, if_pos e1, e2]
  simp only
  rw [if_pos e3, e4]
  simp only
  rw [if_pos e5]
theorem ev_place {K : PySem.W.Frag} {σ : L2.St} {S : Sit} {E : XK} {tr : TA} {w : Cs} (ha : EvA K tr σ S [.d (.str (cS w))]) (hl : w.length ≤ 10000) : EvD K (tCall (sp__law_place K) [] E tr) σ S (match plQ w with | some p => eP p | none => .none) := fun T l Q q => ha T l _ fun vs U lU hv => by
  rw [List.append_nil]
  exact ⟨U, w, rfl, hv, hl, fun v W lW o => q v W (lU.trans lW) o⟩
end
theorem kr_notInL {X : Cx} {K : PySem.W.Frag} (h : X.K = K := by rfl) : OpR X (compareOp .NotIn) (rIn K true) := h ▸ op_notIn_seq
def plD : Option Pl → PyData
  | some p => eP p
  | none => .none
theorem ev_placeD {K : PySem.W.Frag} {σ : L2.St} {S : Sit} {E : XK} {tr : TA} {w : Cs} (ha : EvA K tr σ S [.d (.str (cS w))]) (hl : w.length ≤ 10000) : EvD K (tCall (sp__law_place K) [] E tr) σ S (plD (plQ w)) := ev_is (ev_place ha hl) (by cases plQ w <;> rfl)
def mq2 (n : Nat) (b : Cs) : Option Pl → Option Mk
  | some p => if b ∈ colL n then some (p.1, p.2, ((NumText.digitsVal b : Nat) : Int)) else none
  | none => none
theorem mkQ_of {n : Nat} {x a b : Cs} (h : spC 58 x = [a, b]) : mkQ n x = mq2 n b (plQ a) := by
  unfold mkQ
  rw [h]
  simp only [two]
  cases plQ a <;> rfl
theorem mq2_no {n : Nat} {b : Cs} {o : Option Pl} (h : b ∉ colL n) : mq2 n b o = none := by
  cases o with
  | none => rfl
  | some p => exact if_neg h
theorem mq2_yes {n : Nat} {b : Cs} {p : Pl} (h : b ∈ colL n) : mq2 n b (some p) = some (p.1, p.2, ((NumText.digitsVal b : Nat) : Int)) := if_pos h
theorem all_filter (r : Cs) (p : Nat → Bool) : PyData.eqv (.list ((r.filter fun c => !p c).map fun c => PyData.str ⟨#[c]⟩)) (.list []) = r.all p := by
  induction r with
  | nil => rfl
  | cons a l ih =>
    rw [List.filter_cons, List.all_cons]
    cases h : p a with
    | true => simpa using ih
    | false => rfl
theorem rise_sd (f : List Mk) : decide (f.map plOf = sd (f.map plOf)) = riseB f := by
  unfold riseB
  exact decide_eq_decide.mpr ⟨fun h => sd_rise h.symm, fun h => (sd_id h).symm⟩
theorem col_figs {n : Nat} {b : Cs} (h : b ∈ colL n) : b.all isFig = true ∧ b.length = 1 := by
  have key : ∀ b ∈ ([[49], [50], [51], [52]] : List Cs), b.all isFig = true ∧ b.length = 1 := by decide
  exact key b (List.mem_of_mem_take h)
theorem lit_1 : ("1" : Str) = cS [49] := by decide +kernel
theorem lit_2 : ("2" : Str) = cS [50] := by decide +kernel
theorem lit_3 : ("3" : Str) = cS [51] := by decide +kernel
theorem lit_4 : ("4" : Str) = cS [52] := by decide +kernel
end MW

set_option Elab.async false
set_option linter.all false
set_option maxRecDepth 100000
set_option maxHeartbeats 4000000
namespace MW
open PySem PySem.Spec PyProof.Rows L2
local macro_rules | `(tactic| walk_at "ev") => `(tactic| first
  | (refine ev_var (by assumption) ?_; rfl)
  | (refine ev_varv (by assumption) ?_; rfl)
  | exact ev_ci
  | exact ev_cs
  | exact ev_cb
  | exact ev_cn
  | exact eb_yes
  | exact ea_nil
  | exact ea_d0
  | exact eo_none
  | (apply ea_cons <;> walk_at "ev")
  | (apply eo_some <;> walk_at "ev")
  | (apply ev_I0 <;> walk_at "ev")
  | (apply ev_B0 <;> walk_at "ev")
  | (apply ev_chain <;> walk_at "ev")
  | (apply ev_neg <;> walk_at "ev")
  | (apply ev_lenL <;> walk_at "ev")
  | (apply ev_lenT <;> walk_at "ev")
  | (apply eb_test <;> walk_at "ev")
  | (apply eb_B <;> walk_at "ev")
  | (apply eb_not <;> walk_at "ev")
  | (apply ev_notV <;> walk_at "ev")
  | (apply ev_tup <;> walk_at "ev")
  | (apply ea_ds <;> walk_at "ev")
  | (apply ev_ixT <;> walk_at "ev")
  | (apply ev_ixL <;> walk_at "ev")
  | (apply ev_eqD <;> walk_at "ev")
  | (apply ev_neD <;> walk_at "ev")
  | (apply ev_inS <;> walk_at "ev")
  | (apply ev_isN <;> walk_at "ev")
  | (apply ev_notN <;> walk_at "ev")
  | (apply ev_andV <;> walk_at "ev")
  | (apply ev_orV <;> walk_at "ev")
  | (apply eb_and <;> walk_at "ev")
  | (apply eb_or <;> walk_at "ev")
  | (apply ev_I <;> walk_at "ev")
  | (apply ev_lenS <;> walk_at "ev")
  | (apply ev_all <;> walk_at "ev")
  | (apply ev_any <;> walk_at "ev")
  | (intro _; walk_at "ev")
  | rfl
  | (with_reducible assumption)
  | decide
  | omega)
theorem sc__law_read : FnScope ["text", "words", "place", "sign", "floor", "word", "sides", "spot", "places", "mark"] ["text"] (defScope (top 33)) := ⟨rfl, rfl, rfl, by decide +kernel, rfl, by decide +kernel, by decide +kernel⟩
section
variable {P : Program} {w : World} {K : PySem.W.Frag} {mg : Str → Option Value} {base : Heap}
theorem k__law_read (T : Tx K mg) (D : Def K mg "_law_read" (top 33)) (F__law_place : FnK P w K mg base 1 "_law_place" ["word"] (sp__law_place K)) : FnK P w K mg base 2 "_law_read" ["text"] (sp__law_read K) := by
  refine fn_mk D sc__law_read (fun vs H Q E h => ?_) (fun _ _ _ _ _ _ us hl => match us, hl with | [_], _ => rfl) (fun f cdv A outer s H vs Q E hr h => ?_)
  · obtain ⟨S, t, rfl, hv, _⟩ := h
    exact hv.len
  obtain ⟨S, t, rfl, hv, hl, hc, hcnt, h1⟩ := h
  refine ⟨_, (pss_cons (ps_set (i := 1) sc__law_read.nd rfl (Or.inl rfl) (pe_split (pv 0) pe_str))
      (pss_cons (ps_if (PW.pt (pw_or (pt_cmpR op_lt (pe_callB (kr_len (K := K)) (by rfl) T.len (by decide +kernel) (pa_cons (pv 1) pa_nil)) pe_int (nomark _)) (pw_or (pt_cmpR (kr_eqD (K := K) hr.units) (pe_ix (kx_list (K := K)) (pv 1) pe_int (fun _ _ => rfl)) pe_str (nomark _)) (pw_or1 (pt_cmpR op_notIn_sign (pe_ix ix_str (pe_ix (kx_list (K := K)) (pv 1) pe_int (fun _ _ => rfl)) (pe_un un_neg pe_int) (fun _ _ => rfl)) pe_str (by rfl)))))) (pss_one (ps_ret pe_non)) pss_nil)
      (pss_cons (ps_set (i := 2) sc__law_read.nd rfl (Or.inl rfl) (pe_fn F__law_place (hr.mono (by decide)) (passes_call (takes_of rfl rfl rfl rfl) (fun _ _ _ _ h => h)) (pa_cons (pe_slice sl_str (pe_ix (kx_list (K := K)) (pv 1) pe_int (fun _ _ => rfl)) po_none (po_some (pe_un un_neg pe_int))) pa_nil)))
      (pss_cons (ps_if (PW.pt (pw_or (pt_not (pt_chain op_le op_le pe_int (pe_callB (kr_len (K := K)) (by rfl) T.len (by decide +kernel) (pa_cons (pe_ix (kx_list (K := K)) (pv 1) pe_int (fun _ _ => rfl)) pa_nil)) pe_int)) (pw_or (pt_cmpR (kr_neD (K := K) hr.units) (pe_lc (own := [("sign", 3)]) rfl sc__law_read.nd (pi_str (pe_ix (kx_list (K := K)) (pv 1) pe_int (fun _ _ => rfl))) (blkOk_by (N := ["text", "words", "place", "sign", "floor", "word", "sides", "spot", "places", "mark"]) (sc := defScope (top 33)) (by decide +kernel)) (fun _ _ _ _ _ => (pg_name (i := 3) sc__law_read.nd rfl (Or.inl rfl))) (fun _ _ _ _ _ => (pts_one (pt_cmpR op_notIn_sign (pv 3) pe_str (by rfl)))) (fun _ _ _ _ _ => (pv 3))) (pe_lst pa_nil) (nomark _)) (pw_or1 (pt_cmpR op_isN (pv 2) pe_non (nomark _)))))) (pss_one (ps_ret pe_non)) pss_nil)
      (pss_cons (ps_set (i := 4) sc__law_read.nd rfl (Or.inl rfl) (pe_lst pa_nil))
      (pss_cons (ps_for (passes_of rfl) rfl (kpi_list (K := K) (pe_slice (ks_list (K := K)) (pv 1) (po_some pe_int) po_none)) (pg_name (i := 5) sc__law_read.nd rfl (Or.inl rfl)) (pss_cons (ps_set (i := 6) sc__law_read.nd rfl (Or.inl rfl) (pe_split (pv 5) pe_str))
      (pss_cons (ps_set (i := 7) sc__law_read.nd rfl (Or.inl rfl) (pe_fn F__law_place (hr.mono (by decide)) (passes_call (takes_of rfl rfl rfl rfl) (fun _ _ _ _ h => h)) (pa_cons (pe_ix (kx_list (K := K)) (pv 6) pe_int (fun _ _ => rfl)) pa_nil)))
      (pss_cons (ps_if (PW.pt (pw_or (pt_cmpR (kr_neD (K := K) hr.units) (pe_callB (kr_len (K := K)) (by rfl) T.len (by decide +kernel) (pa_cons (pv 6) pa_nil)) pe_int (nomark _)) (pw_or (pt_cmpR op_isN (pv 7) pe_non (nomark _)) (pw_or1 (pt_cmpR (kr_notInL (K := K)) (pe_ix (kx_list (K := K)) (pv 6) pe_int (fun _ _ => rfl)) (pe_slice (ks_list (K := K)) (pe_lst (pa_cons pe_str (pa_cons pe_str (pa_cons pe_str (pa_cons pe_str pa_nil))))) po_none (po_some (pe_op op_sub (pe_callB (kr_len (K := K)) (by rfl) T.len (by decide +kernel) (pa_cons (pe_ix (kx_list (K := K)) (pv 1) pe_int (fun _ _ => rfl)) pa_nil)) pe_int))) (by rfl)))))) (pss_one (ps_ret pe_non)) pss_nil)
      (pss_one (ps_expr (kpe_bm (K := K) rfl PySem.F.plainAttrs_list PySem.F.slot_list_append PySem.F.type_list_append mt_append (pv 4) (pa_cons (pe_op (kr_catT (K := K)) (pv 7) (pe_tup (pa_cons (pe_callTy call_int_str (by rfl) T.int (by decide +kernel) (pa_cons (pe_ix (kx_list (K := K)) (pv 6) pe_int (fun _ _ => rfl)) pa_nil)) pa_nil))) pa_nil))))))))
      (pss_cons (ps_setLc (i := 8) (own := [("mark", 9)]) rfl sc__law_read.nd rfl rfl (sw_true rfl rfl rfl (by decide +kernel)) (kpi_list (K := K) (pv 4)) (blkOk_by (N := ["text", "words", "place", "sign", "floor", "word", "sides", "spot", "places", "mark"]) (sc := defScope (top 33)) (by decide +kernel)) (fun _ _ _ _ _ => (pg_name (i := 9) sc__law_read.nd rfl (Or.inl rfl))) (fun _ _ _ _ _ => pts_nil) (fun _ _ _ _ _ => (pe_slice (ks_tup (K := K)) (pv 9) po_none (po_some pe_int))))
      (pss_cons (ps_if (PW.pt (pw_or (pt_cmpR (kr_neD (K := K) hr.units) (pv 8) (pe_callB (kr_sortS (K := K) rfl hr.units) (by rfl) T.sorted (by decide +kernel) (pa_cons (pe_callTy (kr_setP (K := K) rfl hr.units) (by rfl) T.set (by decide +kernel) (pa_cons (pv 8) pa_nil)) pa_nil)) (nomark _)) (pw_or1 (pt_cmpR op_gt (pe_callB (kr_len (K := K)) (by rfl) T.len (by decide +kernel) (pa_cons (pv 4) pa_nil)) pe_int (nomark _))))) (pss_one (ps_ret pe_non)) pss_nil)
      (pss_one (ps_ret (pe_tup (pa_cons (pe_ix (kx_list (K := K)) (pv 1) pe_int (fun _ _ => rfl)) (pa_cons (pe_op (kr_catT (K := K)) (pv 2) (pe_tup (pa_cons (pe_m1 PySem.F.slot_str_index PySem.F.type_str_index mt_sindex pe_str (pe_ix ix_str (pe_ix (kx_list (K := K)) (pv 1) pe_int (fun _ _ => rfl)) (pe_un un_neg pe_int) (fun _ _ => rfl))) pa_nil))) (pa_cons (pv 4) pa_nil)))))))))))))), ?_⟩
  have hE := Sv.start (N := ["text", "words", "place", "sign", "floor", "word", "sides", "spot", "places", "mark"]) (n := 9) hv rfl
  have no : lawR t = none → ∀ {D : Ends} {σ : L2.St} {T : Sit}, D.rt = Q → Le S T → tRet (tC .non) D σ T.H := fun e {D σ T} hD l => st_ret (K := K) (s := .d .none) ev_cn fun v T5 l5 o => by
    rw [hD]
    refine h1 v T5 (l.trans l5) ?_
    unfold told40N
    rw [e]
    exact o
  refine st_asg (s := .d (eTs (spC 32 t))) hE (ev_split (ev_var hE rfl) (ev_lit lit_blank) (by decide) (by omega)) fun σ1 T1 l1 hE1 => ?_
  clear hE
  dsimp only
  have wl := spC_count 32 t
  have lenE : EvD K (tCB (rLen K) (tCons (tVar 1) tNil)) σ1 T1 (.int ((spC 32 t).length : Nat)) := ev_is (ev_lenL (ds := (spC 32 t).map fun p => .str (cS p)) (ev_var hE1 rfl)) (by rw [List.length_map])
  by_cases short : (spC 32 t).length < 2
  · apply st_if (K := K) (b := true)
    case hb => exact eb_is (eb_or (a := true) (b := true) (eb_test (ev_is (ev_B0 (f := fun i j => decide (i < j)) lenE ev_ci) (by rw [decide_eq_true (by omega)]))) (fun e => nomatch e)) rfl
    case h2 => exact fun e => nomatch e
    exact fun _ T2 l2 => no (lawR_short short) rfl (l1.trans l2)
  obtain ⟨r, x, ms, hws⟩ : ∃ r x ms, spC 32 t = r :: x :: ms := by
    match hs : spC 32 t with
    | [] => rw [hs] at short; exact absurd (by decide) short
    | [_] => rw [hs] at short; exact absurd (by show 1 < 2; decide) short
    | r :: x :: ms => exact ⟨r, x, ms, rfl⟩
  have mr := spC_mem (c := 32) (w := t) (p := r) (by rw [hws]; simp)
  have mx' := spC_mem (c := 32) (w := t) (p := x) (by rw [hws]; simp)
  have mm : ∀ p ∈ ms, _ := fun p hp => spC_mem (c := 32) (w := t) (p := p) (by rw [hws]; simp [hp])
  have mlen : ms.length ≤ 250 := by
    rw [hws] at wl
    simp only [List.length_cons] at wl
    omega
  have ix0 : L2.atI ((spC 32 t).map fun p => PyData.str (cS p)) 0 = some (.str (cS r)) := by rw [hws]; exact at_c0 _ _
  have ix1 : L2.atI ((spC 32 t).map fun p => PyData.str (cS p)) 1 = some (.str (cS x)) := by rw [hws]; exact at_c1 _ _ _
  have w0 : ∀ {σ : L2.St} {S : Sit} {δ : List Sl}, Sv K S.G σ δ → δ[1]? = some (.d (eTs (spC 32 t))) → EvD K (tOp (rIxL K) (tVar 1) (tC (.int 0))) σ S (.str (cS r)) := fun {σ S δ} hE e => ev_ixL (ds := (spC 32 t).map fun p => .str (cS p)) (ev_var hE e) ev_ci ix0
  have w1 : ∀ {σ : L2.St} {S : Sit} {δ : List Sl}, Sv K S.G σ δ → δ[1]? = some (.d (eTs (spC 32 t))) → EvD K (tOp (rIxL K) (tVar 1) (tC (.int 1))) σ S (.str (cS x)) := fun {σ S δ} hE e => ev_ixL (ds := (spC 32 t).map fun p => .str (cS p)) (ev_var hE e) ev_ci ix1
  have wlast : x ≠ [] → ∀ {σ : L2.St} {S : Sit} {δ : List Sl}, Sv K S.G σ δ → δ[1]? = some (.d (eTs (spC 32 t))) → EvD K (tOp rIxS (tOp (rIxL K) (tVar 1) (tC (.int 1))) (tUn (rU fun i => .int (-i)) (tC (.int 1)))) σ S (.str (cS [lastC x])) := fun ne {σ S δ} hE e => ev_ixS (i := -1) (w1 hE e) (ev_neg ev_ci) (at_lastS ne) (by rw [cS_len]; omega)
  apply st_if (K := K) (b := !hdP x)
  case hb =>
    refine eb_is (eb_or (a := false) (b := decide (x = []) || !decide (lastC x ∈ hdL)) (eb_test (ev_is (ev_B0 (f := fun i j => decide (i < j)) lenE ev_ci) (by rw [decide_eq_false (by omega)]))) fun _ => eb_or (eb_test (ev_is (ev_eqD (w1 hE1 rfl) (ev_lit lit_empty) ((shp_cs fun c h => hc c (mx'.1 c h)).to (by decide)) ((shp_cs (by decide)).to (by decide))) (by rw [eqv_cs]))) fun ne => eb_test (ev_is (ev_notInS (wlast (of_decide_eq_false ne) hE1 rfl) (ev_lit lit_hd)) rfl)) ?_
    unfold hdP
    rw [Bool.false_or, Bool.not_and, Bool.not_not]
    congr 1
    cases x <;> rfl
  case h1 =>
    intro e T2 l2
    exact no (lawR_n1 hws (not_t e)) rfl (l1.trans l2)
  intro e T2 l2
  have hhd := not_f e
  have ne : x ≠ [] := fun z => by
    rw [z] at hhd
    exact absurd hhd (by decide)
  have hdm : lastC x ∈ hdL := by
    unfold hdP at hhd
    rw [Bool.and_eq_true] at hhd
    exact of_decide_eq_true hhd.2
  have hE2 := hE1.up l2.g
  clear hE1 lenE
  dsimp only [tNext]
  -- place
  refine st_asg (s := .d (plD (plQ x.dropLast))) hE2 (ev_placeD (w := x.dropLast) (ea_cons (ev_is (ev_slS (w1 hE2 rfl) eo_none (eo_some (ev_neg ev_ci)) (by rw [cS_len]; omega)) (by rw [cut_initS])) ea_nil) (by rw [List.length_dropLast]; omega)) fun σ3 T3 l3 hE3 => ?_
  clear hE2
  dsimp only
  have lL3 := (l1.trans l2).trans l3
  have rlen : EvD K (tCB (rLen K) (tCons (tOp (rIxL K) (tVar 1) (tC (.int 0))) tNil)) σ3 T3 (.int (r.length : Nat)) := ev_is (ev_lenS (w0 hE3 rfl) (by rw [cS_len]; omega)) (by rw [cS_len])
  apply st_if (K := K) (b := !ruleOk (cS r) || isNone (plD (plQ x.dropLast)))
  case hb =>
    refine eb_is (eb_or (a := !(decide ((2 : Int) ≤ (r.length : Nat)) && decide (((r.length : Nat) : Int) ≤ 5))) (b := !(r.all fun c => decide (c ∈ signs4.cps.toList)) || isNone (plD (plQ x.dropLast))) (eb_not (eb_test (ev_chain (f := fun i j => decide (i ≤ j)) (g := fun i j => decide (i ≤ j)) ev_ci rlen ev_ci))) fun _ => eb_or (eb_test (ev_is (ev_neD (ev_lc (xs := r) (enc := fun c => .str ⟨#[c]⟩) hE3 (ei_str (w0 hE3 rfl)) (fun c => [(3, .str ⟨#[c]⟩)]) (fun c => !decide (c ∈ signs4.cps.toList)) (fun c => .str ⟨#[c]⟩) (fun c _ => tg_name) (fun c _ q hq => by simp at hq; subst hq; simp) (fun c _ σ' T' l' hE' => eb_test (ev_notInS (ev_var hE' rfl) ev_cs)) (fun c _ _ σ' T' l' hE' => ev_var hE' rfl) (by omega)) (ev_lst (ds := []) ea_d0 (by decide)) ?_ (by decide)) ?_)) fun _ => eb_test (ev_isN (ev_var hE3 rfl))) ?_
    · refine (shp_list (n := 0) fun d hd => ?_).to (by decide)
      obtain ⟨c, hcm, rfl⟩ := List.mem_map.mp hd
      have hcr := (List.mem_filter.mp hcm).1
      exact shp_cs (w := [c]) fun c' h' => by
        rw [List.mem_singleton.mp h']
        exact hc c (mr.1 c hcr)
    · congr 2
      exact all_filter r fun c => decide (c ∈ signs4.cps.toList)
    · unfold ruleOk
      rw [cS_len, ← Bool.or_assoc, ← Bool.not_and]
  case h1 =>
    intro e T4 l4
    refine no ?_ rfl (lL3.trans l4)
    rcases (Bool.or_eq_true _ _).mp e with e | e
    · exact lawR_n3 hws (not_t e)
    · refine lawR_n2 hws ?_
      cases hq : plQ x.dropLast with
      | none => rfl
      | some p => rw [hq] at e; cases e
  intro e T4 l4
  have e4 := (Bool.or_eq_false_iff).mp e
  have hro : ruleOk (cS r) = true := not_f e4.1
  obtain ⟨pl, hpl⟩ : ∃ p, plQ x.dropLast = some p := by
    cases hq : plQ x.dropLast with
    | none => rw [hq] at e4; cases e4.2
    | some p => exact ⟨p, rfl⟩
  have rl := ruleOk_len hro
  rw [cS_len] at rl
  have hE4 := hE3.up l4.g
  clear hE3 rlen
  dsimp only [tNext]
  have lL4 := lL3.trans l4
  -- floor
  refine st_own (ds := []) hE4 ea_d0 (by decide) fun pf σ5 T5 l5 nf o5 hE5 => ?_
  have hfS : S.H pf = none := none_of_np fun q o hq => nf q o (lL4.2.1 _ _ hq)
  have lL5 := lL4.trans l5
  clear hE4
  dsimp only
  have cutw : cutD ((spC 32 t).map fun p => PyData.str (cS p)) (some 2) none = ms.map fun p => PyData.str (cS p) := by
    rw [cut_from (by decide), hws]
    rfl
  have rg : EvI K (iList K (L2.tSl (rSlL K) (tVar 1) (tPart (tC (.int 2))) tNoPart)) σ5 T5 (ms.map fun p => PyData.str (cS p)) := ei_list (ev_is (ev_slL (ds := (spC 32 t).map fun p => .str (cS p)) (ev_var hE5 rfl) (eo_some ev_ci) eo_none) (by rw [cutw]))
  apply st_forT (xs := ms) (enc := fun p => PyData.str (cS p)) rg (fun _ n σ' T => Le S T ∧ (∃ f, allP (mkQ r.length) (ms.take n) = some f ∧ f.length ≤ n ∧ Ow K T pf (f.map eM)) ∧ Sv K T.G σ' [.d (.str (cS t)), .d (eTs (spC 32 t)), .d (plD (plQ x.dropLast)), .non, .v (.ref pf), .non, .non, .non, .non, .non])
  case h0 => exact fun U l => ⟨lL5.trans l, ⟨[], rfl, Nat.le_refl _, o5.up l⟩, (hE5.up l.g)⟩
  case hs =>
    intro U n p σ' T' v lU hn hG hI hv'
    obtain ⟨lI, ⟨f, hf, hfl, oI⟩, hEI⟩ := hI
    have hpm : p ∈ ms := List.mem_of_getElem? hn
    have htake : ms.take (n + 1) = ms.take n ++ [p] := by rw [List.take_add_one, hn]; rfl
    have nlt : n < ms.length := (List.getElem?_eq_some_iff.mp hn).1
    refine tg_name v σ' T' _ hv' fun σ6 hE6 _ => ?_
    have hE6 := hE6 _ hEI
    have mp := mm p hpm
    refine st_asg (s := .d (eTs (spC 58 p))) hE6 (ev_split (ev_var hE6 rfl) (ev_lit lit_colon) (by decide) (by omega)) fun σ7 T7 l7 hE7 => ?_
    clear hE6
    dsimp only
    obtain ⟨a, ss, hss⟩ : ∃ a ss, spC 58 p = a :: ss := by
      match hs : spC 58 p with
      | [] => exact absurd hs (spl_ne 58 p [])
      | a :: ss => exact ⟨a, ss, rfl⟩
    have ma := spC_mem (c := 58) (w := p) (p := a) (by rw [hss]; simp)
    have jx0 : L2.atI ((spC 58 p).map fun p => PyData.str (cS p)) 0 = some (.str (cS a)) := by rw [hss]; exact at_c0 _ _
    refine st_asg (s := .d (plD (plQ a))) hE7 (ev_placeD (w := a) (ea_cons (ev_ixL (ds := (spC 58 p).map fun p => .str (cS p)) (ev_var hE7 rfl) ev_ci jx0) ea_nil) (by omega)) fun σ8 T8 l8 hE8 => ?_
    clear hE7
    dsimp only
    have l78 := l7.trans l8
    have lI8 := lI.trans l78
    have o8 := oI.up l78
    by_cases c2 : (spC 58 p).length = 2
    · obtain ⟨b, hb⟩ : ∃ b, ss = [b] := by
        rw [hss] at c2
        match ss, c2 with
        | [b], _ => exact ⟨b, rfl⟩
      subst hb
      have jx1 : L2.atI ((spC 58 p).map fun p => PyData.str (cS p)) 1 = some (.str (cS b)) := by rw [hss]; exact at_c1 _ _ _
      have hq := mkQ_of (n := r.length) hss
      have b1 : ∀ {σ : L2.St} {S : Sit} {δ : List Sl}, Sv K S.G σ δ → δ[6]? = some (.d (eTs (spC 58 p))) → EvD K (tOp (rIxL K) (tVar 6) (tC (.int 1))) σ S (.str (cS b)) := fun {σ S δ} hE e => ev_ixL (ds := (spC 58 p).map fun p => .str (cS p)) (ev_var hE e) ev_ci jx1
      have cutc : cutD (([[49], [50], [51], [52]] : List Cs).map fun p => PyData.str (cS p)) none (some (((r.length : Nat) : Int) - 1)) = (colL r.length).map fun p => PyData.str (cS p) := by
        rw [cut_to (by omega)]
        unfold colL
        rw [List.map_take, show (((r.length : Nat) : Int) - 1).toNat = r.length - 1 by omega]
      apply st_if (K := K) (b := isNone (plD (plQ a)) || !decide (b ∈ colL r.length))
      case hb => exact eb_is (eb_or (a := false) (eb_test (ev_is (ev_neD (ev_lenL (ds := (spC 58 p).map fun p => .str (cS p)) (ev_var hE8 rfl)) ev_ci rfl rfl) (by rw [eqv_ints, List.length_map, c2]; rfl))) fun _ => eb_or (eb_test (ev_isN (ev_var hE8 rfl))) fun _ => eb_test (ev_notInL (b1 hE8 rfl) (ev_is (ev_slL (ds := ([[49], [50], [51], [52]] : List Cs).map fun p => PyData.str (cS p)) (ev_lst (ea_ds (ev_lit lit_1) (ea_ds (ev_lit lit_2) (ea_ds (ev_lit lit_3) (ea_ds (ev_lit lit_4) ea_d0)))) (by show 4 ≤ _; decide)) eo_none (eo_some (ev_I0 (ev_is (ev_lenS (w0 hE8 rfl) (by rw [cS_len]; omega)) (by rw [cS_len])) ev_ci))) (by rw [cutc]; rfl)))) (Bool.false_or _)
      case h1 =>
        intro c T9 l9
        refine no (lawR_n4 hws (allP_none hpm ?_)) rfl (lI8.trans l9)
        rw [hq]
        rcases (Bool.or_eq_true _ _).mp c with c | c
        · cases h : plQ a with
          | none => rfl
          | some z => rw [h] at c; cases c
        · exact mq2_no (of_decide_eq_false (not_t c))
      intro c T9 l9
      have hE9 := hE8.up l9.g
      clear hE8
      dsimp only [tNext]
      have c4 := (Bool.or_eq_false_iff).mp c
      have hb : b ∈ colL r.length := of_decide_eq_true (not_f c4.2)
      obtain ⟨pa, hpa⟩ : ∃ z, plQ a = some z := by
        cases h : plQ a with
        | none => rw [h] at c4; cases c4.1
        | some z => exact ⟨z, rfl⟩
      rw [hpa] at hE9 hq
      rw [mq2_yes hb] at hq
      obtain ⟨fg1, fg2⟩ := col_figs hb
      refine st_app (p := pf) (d := eM (pa.1, pa.2, ((NumText.digitsVal b : Nat) : Int))) (ev_varv hE9 rfl) (o8.up l9) (by rw [List.length_map]; omega) (ev_catT (xs := [.int pa.1, .int pa.2]) (ys := [.int ((NumText.digitsVal b : Nat) : Int)]) (ev_var hE9 rfl) (ev_tup (ea_ds (ev_intD (b1 hE9 rfl) fg1 (by omega) (by omega)) ea_d0) (by show 1 ≤ _; decide)) (by simp) (by simp) (by show 3 ≤ _; decide)) fun T10 l10 o10 => ?_
      refine ⟨T10, rfl, (l78.trans l9).g.trans l10.g, lm_le (lI8.trans l9) l10 hfS, ⟨f ++ [_], by rw [htake]; exact allP_app hq hf, by rw [List.length_append]; show f.length + 1 ≤ _; omega, by rw [List.map_append]; exact o10⟩, (((hE9.up l10.g).forget 5).forget 6).forget 7⟩
    · apply st_if (K := K) (b := true)
      case hb => exact eb_is (eb_or (a := true) (b := true) (eb_test (ev_is (ev_neD (ev_lenL (ds := (spC 58 p).map fun p => .str (cS p)) (ev_var hE8 rfl)) ev_ci rfl rfl) (by rw [eqv_ints, List.length_map, decide_eq_false (by omega)]; rfl))) (fun z => nomatch z)) rfl
      case h2 => exact fun z => nomatch z
      intro _ T9 l9
      refine no (lawR_n4 hws (allP_none hpm ?_)) rfl (lI8.trans l9)
      unfold mkQ
      exact two_none c2
  case hd =>
    intro U σ' T' lU hG hI
    obtain ⟨lI, ⟨f, hf, hfl, oI⟩, hEI⟩ := hI
    rw [List.take_length] at hf
    obtain ⟨Tg, a1, a2, a3, a4⟩ := oI.give
    have hEg : Sv K Tg.G σ' _ := Sv.give a3 (hEI.up a2) (i := 4) rfl
    have lg := lI.keepG a1 a2 a4 hfS
    rw [← a1]
    clear hE5 hEI
    dsimp only
    have hf250 : f.length ≤ 250 := by omega
    -- places
    refine st_asg (s := .d (.list ((f.map plOf).map eP))) hEg ?_ fun σ6 T6 l6 hE6 => ?_
    · rw [List.map_map]
      refine ev_lcm hEg (ei_list (ev_var hEg rfl)) (fun m => [(9, eM m)]) _ (fun m _ => tg_name) (fun m _ q hq => by simp at hq; subst hq; simp) (fun m _ σ' T l hE' => ?_) (by omega)
      exact ev_slT (ds := [.int m.1, .int m.2.1, .int m.2.2]) (ev_var hE' rfl) eo_none (eo_some ev_ci) (by show ¬ (HT.sIx 3 0 none = 0 ∧ HT.sIx 3 3 (some 2) = 3); decide)
    clear hEg
    dsimp only
    have sh : ∀ l : List Pl, SeqAt.shaped (.list (l.map eP)) = true := fun l => (shp_map shp_P l).to (by decide)
    apply st_if (K := K) (b := !(riseB f && decide (f.length ≤ 200)))
    case hb =>
      refine eb_is (eb_or (a := !riseB f) (b := !decide (f.length ≤ 200)) (eb_test (ev_is (ev_neD (ev_var hE6 rfl) (ev_sortset (ev_var hE6 rfl) (by rw [List.length_map]; omega)) (sh _) (sh _)) (by rw [eqv_lists eqv_P, rise_sd]))) fun _ => eb_test (ev_is (ev_B0 (f := fun i j => decide (j < i)) (ev_lenL (ds := f.map eM) (ev_var hE6 rfl)) ev_ci) ?_)) (by rw [Bool.not_and])
      rw [List.length_map, ← decide_not]
      congr 1
      exact decide_eq_decide.mpr (by omega)
    case h1 =>
      intro e T7 l7
      exact no (lawR_n5 hws hf (not_t e)) rfl ((lg.trans l6).trans l7)
    intro e T7 l7
    have hE7 := hE6.up l7.g
    clear hE6
    dsimp only [tNext]
    rw [hpl] at hE7
    have fin := lawR_yes hws hhd hpl hro hf (not_f e)
    refine st_ret (K := K) (s := .d (eRWF (r, (pl.1, pl.2, hdI (lastC x)), f))) (ev_tup (ds := [.str (cS r), eW3 (pl.1, pl.2, hdI (lastC x)), eF f]) (ea_ds (w0 hE7 rfl) (ea_ds (ev_catT (xs := [.int pl.1, .int pl.2]) (ys := [.int (hdI (lastC x))]) (ev_var hE7 rfl) (ev_tup (ea_ds (ev_sidx (ev_lit lit_hd) (wlast ne hE7 rfl) hdm) ea_d0) (by show 1 ≤ _; decide)) (by simp) (by simp) (by show 3 ≤ _; decide)) (ea_ds (ev_var hE7 rfl) ea_d0))) (by show 3 ≤ _; decide)) fun v T8 l8 o => h1 v T8 (((lg.trans l6).trans l7).trans l8) ?_
    unfold told40N
    rw [fin]
    exact o
end

end MW

set_option Elab.async false
set_option linter.all false
set_option maxRecDepth 100000
set_option maxHeartbeats 4000000
namespace MW
open PySem PySem.Spec PyProof.Rows L2
set_option autoImplicit false
/-- one of a list of one's own -/
def sp_pickO (K : PySem.W.Frag) : Sp := fun vs H Q _ => ∃ (S : Sit) (a t p : Addr) (ns : List Int) (ds : List PyData) (b : Nat), S.H = H ∧ Vs K S.G vs [.v (.ref a), .v (.ref t), .v (.ref p)] ∧ SqL K S.G a (ns.map V.int) ∧ Town S t (b + 1) ∧ Ow K S p ds ∧ p ≠ t ∧ 0 < ds.length ∧
  ∀ d v T, d ∈ ds → Lt t S T → Town T t b → Da K T.G v d → Q v T.H
def sp__law_walkers (K : PySem.W.Frag) : Sp := fun vs H Q _ => ∃ (S : Sit) (a t : Addr) (ns : List Int) (wk : Wk) (b : Nat), S.H = H ∧ Vs K S.G vs [.v (.ref a), .v (.ref t), .d (eW3 wk)] ∧ SqL K S.G a (ns.map V.int) ∧ wOk (w3 wk) = true ∧ Town S t (b + 50) ∧
  ∀ ws v T, ws.length ≤ 6 → (∃ us, ws = wk :: us) → (∀ w ∈ ws, wOk (w3 w) = true) → Lt t S T → Town T t b → Da K T.G v (eWk ws) → Q v T.H
section
variable {K : PySem.W.Frag} {t : Addr} {σ : L2.St} {S : Sit} {δ : List Sl} {ta tb te to ti : TE} {q p : Addr} {X D : Ends} {ds : List PyData} {d : PyData} {b b1 : Nat}
/-- x and a draw: the second is asked where the first is so; both ways together behind it -/
theorem st_ifAndJ {tt : TT} {c : Bool} {t1 : TS} (J : L2.St → Sit → Prop) (hc : EvB K tt σ S c) (ht : Town S t b) (hb : b1 ≤ b) (he : ∀ T, Lt t S T → EvN K t te σ T b b1 (fun d => ∃ c, d = .bool c)) (hk : ∀ σ' T, J σ' T → D.nx σ' T.H) (h1 : ∀ T, Lt t S T → Town T t b1 → (∀ σ' T', J σ' T' → D.nx σ' T'.H) → t1 D σ T.H) (h2 : ∀ T, Lt t S T → J σ T) : tIfS (tAnd tt (tTest te)) t1 tNext D σ S.H :=
  hc S (Le.refl S) _ fun U lU => by
    cases c with
    | false => exact iteF (iteF (hk σ U (h2 U (lU.lm _))))
    | true =>
      refine iteT ?_
      refine he U (lU.lm _) U (Lt.refl U) (ht.up lU) _ fun d v V hd lV tV o => ?_
      obtain ⟨c, rfl⟩ := hd
      have ev := Da.bl_eq o
      subst ev
      have lSV : Lt t S V := Lt.trans (lU.lm _) lV (ht.up lU).has
      refine ⟨c, rfl, ?_⟩
      cases c with
      | true => exact iteT (h1 V lSV tV hk)
      | false => exact iteF (hk σ V (h2 V lSV))
/-- x, y = (a new list, y) -/
theorem st_asg2 {i j : Nat} (hE : Sv K S.G σ δ) (h1 : EvF K ta σ S ds) (h2 : EvD K tb σ S d) (k : ∀ p σ' T, Le S T → Nw S p → Ow K T p ds → Sv K T.G σ' ((δ.set i (.v (.ref p))).set j (.d d)) → X.nx σ' T.H) :
    tAsg (tTup (tCons ta (tCons tb tNil))) (gTup K 2 (gCons (gName i) (gCons (gName j) gNil))) X σ S.H := h1 S (Le.refl S) _ fun p U l n o => h2 U l _ fun v W lW oW => by
  refine ⟨sz (by show 2 ≤ _; decide), fun tp htp => ?_⟩
  have lp := W.push_le (o := .tup [.ref p, v]) htp
  refine ⟨tp, [.ref p, v], rfl, SqT.of upd_same, rfl, .ref p, [v], rfl, v, [], rfl, rfl, ?_⟩
  exact k p _ (W.push tp (.tup [.ref p, v]) htp) ((l.trans lW).trans lp) n ((o.up lW).up lp) (Sv.set (slOk_d (Da.up lp.g oW)) j (Sv.set (slOk_v (K := K) (.ref p)) i (hE.up ((l.trans lW).trans lp).g)))
/-- xs[i] = a step -/
theorem st_setM {i : Int} {j : Nat} {D' : Dd Int} (he : EvM K te σ S q D' d) (hto : ∀ T, Same S.G T.G → Ev K to σ T (.v (.ref p))) (hti : ∀ T, Same S.G T.G → EvD K ti σ T (.int i)) (hp : Ow K S p ds) (hpq : p ≠ q) (hq : ∃ o, S.H q = some o) (hix : ixN ds.length i = some j) (k : ∀ T, Lm [q, p] S T → Dc T q D' → Ow K T p (ds.set j d) → X.nx σ T.H) :
    tAsg te (gSub to ti rSetL) X σ S.H := he S (Le.refl S) _ fun y U l dU oU => hto U l.g U (Le.refl U) _ fun v W lW oW => by
  cases (show some v = some (V.ref p) from oW)
  refine hti U l.g W lW _ fun z Z lZ oZ => ?_
  have ez := Da.int_eq oZ
  subst ez
  have lWZ := lW.trans lZ
  have hpZ := (hp.lm l (by simp [hpq])).up lWZ
  have oy := Da.up lWZ.g oU
  obtain ⟨xs, e1, e2, T, eT, lT, oT⟩ := hpZ.set oy j
  refine ⟨p, xs, i, j, rfl, rfl, e1, by rw [e2]; exact hix, ?_⟩
  show X.nx σ (upd Z.H p (.lst (xs.set j y)))
  rw [← eT]
  have lq : Lm [q] S Z := l.tL lWZ fun x hx => by simp at hx; subst hx; exact dU.has
  exact k T (lq.transM lT (fun x hx => by simp at hx; subst hx; exact ⟨_, e1⟩) (fun x hx => by simp at hx; subst hx; exact (dU.up lWZ).has)) ((dU.up lWZ).lm lT (by simp [Ne.symm hpq])) oT
/-- a draw, the rest being known where it is asked -/
theorem en_walkers {E : XK} {tr : TA} {a : Addr} {ns : List Int} {wk : Wk} (ha : ∀ T, Same S.G T.G → EvA K tr σ T [.v (.ref a), .v (.ref t), .d (eW3 wk)]) (hs : SqL K S.G a (ns.map V.int)) (hw : wOk (w3 wk) = true) :
    EvN K t (tCall (sp__law_walkers K) [] E tr) σ S (b + 50) b (fun d => ∃ ws us, d = eWk ws ∧ ws.length ≤ 6 ∧ ws = wk :: us ∧ ∀ w ∈ ws, wOk (w3 w) = true) := fun T l ht Q q =>
  ha T l.g T (Le.refl T) _ fun vs U lU o => by
    rw [List.append_nil]
    exact ⟨U, a, t, ns, wk, b, rfl, o, (l.g.trans lU.g).seq hs, hw, ht.up lU, fun ws v W h1 ⟨us, h2⟩ h3 lW tW oW => q _ v W ⟨ws, us, rfl, h1, h2, h3⟩ (Lt.trans (lU.lm _) lW (ht.up lU).has) tW oW⟩
end
theorem clamp (z : Int) : -100 ≤ (if (if z < 100 then z else 100) > (0 - 100 : Int) then (if z < 100 then z else 100) else (0 - 100 : Int)) ∧ (if (if z < 100 then z else 100) > (0 - 100 : Int) then (if z < 100 then z else 100) else (0 - 100 : Int)) ≤ 100 := by
  by_cases h : z < 100
  · rw [if_pos h]
    by_cases k : z > (0 - 100 : Int)
    · rw [if_pos k]; omega
    · rw [if_neg k]; omega
  · rw [if_neg h]
    rw [if_pos (by decide)]
    omega
theorem kr_isi {X : Cx} {K : PySem.W.Frag} (hK : X.K = K := by rfl) : CallR X (.builtin "isinstance") (rIsi K) := hK ▸ call_isi
theorem kit_tup (K : PySem.W.Frag) : PySem.W.kitOne K (.type "tuple") (.type "tuple") = some true := by
  first
  | rfl
  | (unfold PySem.W.kitOne; simp)
end MW

set_option Elab.async false
set_option linter.all false
set_option maxRecDepth 100000
set_option maxHeartbeats 4000000
namespace MW
open PySem PySem.Spec PyProof.Rows L2
set_option autoImplicit false
section
variable {K : PySem.W.Frag} {σ : L2.St} {S : Sit} {ta : TE} {ds : List PyData}
theorem eb_isTup (ha : EvD K ta σ S (.tuple ds)) : EvB K (tB (tCB (rIsi K) (tCons ta (tCons (tC (.ty "tuple")) tNil)))) σ S true := fun T l Q q => ha T l _ fun v U lU o => by
  obtain ⟨a, xs, rfl, h1, h2⟩ := Da.tup_eq o
  exact ⟨.ref a, .ty "tuple", .type "tuple", .type "tuple", true, rfl, .ty "tuple", .base (.tup (U.sub _ _ h1)), kit_tup K, true, rfl, q U lU⟩
end
theorem shp_Fs (s : Fs) : Shp 3 (eFs s) := shp_tup fun d hd => by
  simp at hd
  rcases hd with e | e
  · subst e; exact shp_map (fun w => shp_M w) s.2
  · subst e; exact shp_map shp_M _
theorem shp_gv (ws : List Wk) (fl : List Mk) : Shp 3 (.list [eWk ws, eF fl]) := shp_list fun d hd => by
  simp at hd
  rcases hd with e | e
  · subst e; exact shp_map (fun w => shp_M w) ws
  · subst e; exact shp_map shp_M _
theorem fs_told {a : Fs} {ws : List Wk} {fl : List Mk} (h : Eqf a (marksD fl, ws)) (na : Nk a.1) (nb : Nk (marksD fl)) (id0 : toldL (marksD fl) = fl) : eFs a = .tuple [eWk ws, eF fl] := by
  unfold eFs
  rw [h.2, told_eq na nb h.1]
  show PyData.tuple [_, eF (toldL (marksD fl))] = _
  rw [id0]
def farL (ms : List Mk) : List Int := ms.map fun m => mx (ab m.1) (ab m.2.1)
theorem far_in {ms : List Mk} {m : Mk} (h : maxL (farL ms) ≤ 100) (hm : m ∈ ms) : (-100 ≤ m.1 ∧ m.1 ≤ 100) ∧ -100 ≤ m.2.1 ∧ m.2.1 ≤ 100 := by
  have a : mx (ab m.1) (ab m.2.1) ≤ maxL (farL ms) := by
    have hx : mx (ab m.1) (ab m.2.1) ∈ farL ms := List.mem_map.mpr ⟨m, hm, rfl⟩
    unfold maxL
    cases e : farL ms with
    | nil => rw [e] at hx; cases hx
    | cons x l => rw [e] at hx; exact (foldl_max_ge (x :: l) x).2.1 _ hx
  exact mx_le (by omega)
theorem wks_ok {ws : List Wk} (h : ∀ m ∈ ws, (-100 ≤ m.1 ∧ m.1 ≤ 100) ∧ -100 ≤ m.2.1 ∧ m.2.1 ≤ 100) (hh : Hds ws) : ∀ w ∈ ws.map w3, wOk w = true := fun w hw => by
  obtain ⟨x, hx, rfl⟩ := List.mem_map.mp hw
  exact w3_ok (h x hx).1 (h x hx).2 (hh x hx)
theorem told_floor {r : Str} {D : Dd Int} {n : Nat} (ok : Okc r D n) (hi : ∀ m ∈ toldL D, (-100 ≤ m.1 ∧ m.1 ≤ 100) ∧ -100 ≤ m.2.1 ∧ m.2.1 ≤ 100) (hl : (toldL D).length ≤ 200) : floorOk r.length (toldL D) = true := by
  refine floorOk_of hl (fun x hx => ?_) (told_rise ok.nk)
  have a := hi x hx
  have b := (told_cols ok).1 x hx
  unfold markOk
  simp only [Bool.and_eq_true, decide_eq_true_eq]
  omega
theorem told_onF {r : Str} {s : Fs} {m : Nat} (ok : Okc r s.1 m) : Eqf (marksD (toldL s.1), s.2) s := ⟨marks_told ok.nk fun q hq => (ok.cl q hq).1, rfl⟩
theorem wk_marks (ws : List Wk) (fl : List Mk) : (ws.map eW3) ++ (fl.map eM) = ((ws ++ fl : List Mk)).map eM := by
  rw [List.map_append]
  rfl
/-- within a round -/
def mid (r : Str) (D : Dd Int) (ws : List Wk) (i : Nat) : List Wk := (flS r D (ws.take i)).2 ++ ws.drop i
theorem mid_zero (r : Str) (D : Dd Int) (ws : List Wk) : mid r D ws 0 = ws := rfl
theorem mid_full (r : Str) (D : Dd Int) (ws : List Wk) : mid r D ws ws.length = (flS r D ws).2 := by unfold mid; simp
theorem mid_len (r : Str) (D : Dd Int) (ws : List Wk) (i : Nat) : (mid r D ws i).length = ws.length := by
  unfold mid
  rw [List.length_append, flS_len, List.length_take, List.length_drop]
  omega
theorem mid_get {r : Str} {D : Dd Int} {ws : List Wk} {i : Nat} {w : Wk} (h : ws[i]? = some w) : (mid r D ws i)[i]? = some w := by
  have hl := (List.getElem?_eq_some_iff.mp h).1
  unfold mid
  rw [List.getElem?_append_right (by rw [flS_len, List.length_take]; omega), flS_len, List.length_take, List.getElem?_drop, show i + (i - min i ws.length) = i by omega]
  exact h
theorem mid_succ {r : Str} {D : Dd Int} {ws : List Wk} {i : Nat} {w : Wk} (h : ws[i]? = some w) : mid r D ws (i + 1) = (mid r D ws i).set i (goW r (flS r D (ws.take i)).1 w) := by
  have hl := (List.getElem?_eq_some_iff.mp h).1
  unfold mid
  rw [List.take_add_one, h]
  show (flS r D (ws.take i ++ [w])).2 ++ _ = _
  rw [flS_app, List.set_append]
  have e : (flS r D (ws.take i)).2.length = i := by rw [flS_len, List.length_take]; omega
  rw [if_neg (by omega), e, Nat.sub_self]
  have e2 : ws.drop i = w :: ws.drop (i + 1) := by
    rw [List.drop_eq_getElem_cons hl]
    congr 1
    have := (List.getElem?_eq_some_iff.mp h).2
    exact this
  rw [e2]
  simp
theorem fl_take1 {wk : Wk} {us : List Wk} : cutD ((wk :: us).map eW3) none (some 1) = [wk].map eW3 := by
  rw [cut_to (by decide)]
  rfl
theorem ixN_nat {n i : Nat} (h : i < n) : ixN n ((i : Nat) : Int) = some i := by
  unfold ixN
  rw [if_pos (by omega), if_pos (by omega), Int.toNat_natCast]
theorem ev_cutL {K : PySem.W.Frag} {σ : L2.St} {S : Sit} {ta tb : TE} {i j : Int} (ha : EvD K ta σ S (.int i)) (hb : EvD K tb σ S (.int j)) : EvD K (tCB (fun xs H Q => ∃ i j, xs = [.int i, .int j] ∧ Q (.int (if j < i then j else i)) H) (tCons ta (tCons tb tNil))) σ S (.int (min i j)) := by
  refine ev_is (ev_min2 ha hb) (congrArg PyData.int ?_)
  split <;> omega
end MW

set_option Elab.async false
set_option linter.all false
set_option maxRecDepth 100000
set_option maxHeartbeats 4000000
namespace MW
open PySem PySem.Spec PyProof.Rows L2
set_option autoImplicit false
/-! ### methods of a class of one's own -/
def mdef (st : Stmt) (j : Nat) : Stmt := match st with
  | .ClassDef (body := b) .. => b.getD j (.Pass ⟨0, 0, 0, 0⟩)
  | _ => .Pass ⟨0, 0, 0, 0⟩
def MDef (K : PySem.W.Frag) (C : Addr) (m q : Str) (st : Stmt) : Prop := ∃ f fd, FunD K m q (defArgs st) (defBody st) (defScope st) [] [] f fd ∧ Meth K C m f
/-- a method that may be called, and its promise -/
def MtK (P : Program) (w : World) (K : PySem.W.Frag) (mg : Str → Option Value) (base : Heap) (k : Nat) (C : Addr) (m : Str) (ps : List Str) (sp : Sp) : Prop :=
  ∃ f fd, FnOk P w K mg base (L2.CX P w) k f fd ps sp ∧ Meth K C m f ∧ Binds K fd ps []
section
variable {P : Program} {w : World} {K : PySem.W.Frag} {mg : Str → Option Value} {base : Heap}
theorem mt_mk {C : Addr} {m q : Str} {st : Stmt} {N ps : List Str} {k : Nat} {sp : Sp} (D : MDef K C m q st) (S : FnScope N ps (defScope st)) (len : ∀ vs H Q E, sp vs H Q E → vs.length = ps.length)
    (hb : ∀ (kV doc pm : Value) (an : Option Addr) (cdv ct : Value) (us : List Value), us.length = ps.length → bindArgs (PySem.W.fnOf m q (defArgs st) (defBody st) (defScope st) .none kV doc pm an cdv ct) ⟨us, []⟩ = pure (ps.zip us))
    (hbody : ∀ (f : Addr) (cdv : Value) (A : Around) (outer : List Env) (s : Shared) (H : Hp) (vs : List V) (Q : VK) (E : XK), Room k (A.deeper (envOfC q (defScope st) s.heap.objs.size f cdv)) → sp vs H Q E →
      ∃ t, PSs (cxOf (L2.CX P w) P w K mg base N q (defScope st) f cdv A outer s H E) (defBody st) t ∧ t { nx := fun _ H' => Q .non H', rt := Q } (start N vs) H) : MtK P w K mg base (k + 1) C m ps sp := by
  obtain ⟨f, fd, F, g⟩ := D
  exact ⟨f, fd, F.ok S len (fun cdv A outer s H vs Q E hr h => hbody f cdv A outer s H vs Q E hr h), g, F.bindsN hb⟩
end
section
variable {X : Cx} {C : Addr} {k : Nat} {m : Str} {ps : List Str} {sp : Sp} {E : XK} {o e : Expr} {es : List Expr} {ta : TE} {t : TA} {apos pos : Pos} {pl : Sem Bool}
theorem pe_mtK (he : PE X o ta) (c : Cls X.K C) (F : MtK X.prog X.w X.K X.mg X.base k C m ps sp) (hr : Room k X.A) (hx : Passes (L2.CX X.prog X.w) X E) (ha : PA X (e :: es) t)
    (hst : starEach (e :: es) X.env = (false, eval e X.env) :: starEach es X.env := by rfl) (hpl : (backTo pos (starEach es X.env)).any (·.1) = false := by rfl)
    (ht : eval (.Call (.Attribute o m apos) (e :: es) [] pos) X.env = (do
      let ov ← eval o X.env
      standAt apos.atName
      let (f, first) ← holding [ov] (getMethod ov m pl)
      callWith pos f first (backTo pos (starEach (e :: es) X.env)) (backToKw pos (keywordEach [] X.env))) := by rfl) :
    PE X (.Call (.Attribute o m apos) (e :: es) [] pos) (tMeth C m sp [] E ta t) := by
  obtain ⟨f, fd, F, g, b⟩ := F
  exact pe_meth he c g F hr b .nil hx ha hst hpl ht
theorem pe_mtK0 (he : PE X o ta) (c : Cls X.K C) (F : MtK X.prog X.w X.K X.mg X.base k C m ps sp) (hr : Room k X.A) (hx : Passes (L2.CX X.prog X.w) X E)
    (ht : eval (.Call (.Attribute o m apos) [] [] pos) X.env = (do
      let ov ← eval o X.env
      standAt apos.atName
      let (f, first) ← holding [ov] (getMethod ov m pl)
      callWith pos f first (backTo pos (starEach [] X.env)) (backToKw pos (keywordEach [] X.env))) := by rfl) :
    PE X (.Call (.Attribute o m apos) [] [] pos) (tMeth C m sp [] E ta tNil) := by
  obtain ⟨f, fd, F, g, b⟩ := F
  exact pe_meth0 he c g F hr b .nil hx ht
/-- C(e, ..) -/
theorem pe_mkK {x : Str} {p : Pos} (F : MtK X.prog X.w X.K X.mg X.base k C "__init__" ps sp) (M : ∀ f, Meth X.K C "__init__" f → L2.Mk X.K C f) (hr : Room (k + 1) X.A) (hg : Gl X x) (hm : X.mg x = some (.ref C)) (hx : Passes (L2.CX X.prog X.w) X E) (ha : PA X (e :: es) t)
    (hdb : (x == ("__debug__" : Str)) = false := by decide) (he : starEach (e :: es) X.env = (false, eval e X.env) :: starEach es X.env := by rfl) (hpl : (backTo pos (starEach es X.env)).any (·.1) = false := by rfl) :
    PE X (.Call (.Name x p) (e :: es) [] pos) (tMake C sp [] E t) := by
  obtain ⟨f, fd, F, g, b⟩ := F
  exact pe_make (M f g) F hr hg hm b .nil hx ha hdb he hpl
end
theorem kpe_fld {X : Cx} {K : PySem.W.Frag} {e : Expr} {f : Str} {ta : TE} {pos : Pos} (he : PE X e ta) (hb : attributeBase e f X.env (eval e X.env) = eval e X.env) (h : X.K = K := by rfl) : PE X (.Attribute e f pos) (tFld K ta f) := h ▸ pe_fld he hb
theorem kps_fld {X : Cx} {K : PySem.W.Frag} {o value : Expr} {f : Str} {ta tv : TE} {pos pos' : Pos} (ha : PE X o ta) (hv : PE X value tv) (hs : swapsWith value (some (.Attribute o f pos')) pos.line X.env = pure false) (h : X.K = K := by rfl) : PS X (.Assign [.Attribute o f pos'] value pos) (sFld K ta tv f) := h ▸ ps_fld ha hv hs
/-- what the top has left of the class -/
structure Zd (K : PySem.W.Frag) (mg : Str → Option Value) : Prop where
  cl : Cls K (He.ga K "Desk")
  nr : NoAttr K (He.ga K "Desk") "rule"
  nn : NoAttr K (He.ga K "Desk") "now"
  np : NoAttr K (He.ga K "Desk") "past"
  ng : NoAttr K (He.ga K "Desk") "gone"
  mkr : ∀ f, Meth K (He.ga K "Desk") "__init__" f → L2.Mk K (He.ga K "Desk") f
  mg : mg "Desk" = some (.ref (He.ga K "Desk"))
/-! ### a desk -/
structure Sta where
  wk : Wk
  fl : List Mk
  st : Int
def eNow (s : Sta) : PyData := .tuple [eW3 s.wk, .tuple (s.fl.map eM), .int s.st]
abbrev fldD (r : Str) (v : V) (p1 p2 : Addr) : List (Str × V) := [("rule", .str r), ("now", v), ("past", .ref p1), ("gone", .ref p2)]
structure Dk (K : PySem.W.Frag) (C : Addr) (T : Sit) (a dx p1 p2 : Addr) (r : Str) (now : Sta) (past gone : List Sta) : Prop where
  ga : T.G a = none
  gd : T.G dx = none
  ha : ∃ v, T.H a = some (.ins C dx (fldD r v p1 p2)) ∧ Da K T.G v (eNow now)
  hd : T.H dx = some (.own a)
  o1 : Ow K T p1 (past.map eNow)
  o2 : Ow K T p2 (gone.map eNow)
  nd : [a, dx, p1, p2].Nodup
theorem Dk.lm {K : PySem.W.Frag} {C : Addr} {S T : Sit} {a dx p1 p2 : Addr} {r : Str} {now : Sta} {past gone : List Sta} {M : List Addr} (h : Dk K C S a dx p1 p2 r now past gone) (l : Lm M S T) (hM : ∀ q ∈ [a, dx, p1, p2], q ∉ M) : Dk K C T a dx p1 p2 r now past gone := by
  obtain ⟨v, e, d⟩ := h.ha
  exact ⟨(l.2.2 a _ e).trans h.ga, (l.2.2 dx _ h.hd).trans h.gd, ⟨v, l.2.1 a _ (hM a (by simp)) e, Da.up l.1 d⟩, l.2.1 dx _ (hM dx (by simp)) h.hd, h.o1.lm l (hM p1 (by simp)), h.o2.lm l (hM p2 (by simp)), h.nd⟩
theorem Dk.up {K : PySem.W.Frag} {C : Addr} {S T : Sit} {a dx p1 p2 : Addr} {r : Str} {now : Sta} {past gone : List Sta} (h : Dk K C S a dx p1 p2 r now past gone) (l : Le S T) : Dk K C T a dx p1 p2 r now past gone := h.lm (l.lm []) (by simp)
section
variable {K : PySem.W.Frag} {C : Addr} {σ : L2.St} {S : Sit} {ta : TE} {a dx p1 p2 : Addr} {r : Str} {now : Sta} {past gone : List Sta}
/-- self.rule, self.now, self.past, self.gone -/
theorem ev_frule (ha : Ev K ta σ S (.v (.ref a))) (h : Dk K C S a dx p1 p2 r now past gone) (c : Cls K C) (n : NoAttr K C "rule") : EvD K (tFld K ta "rule") σ S (.str r) := fun T l Q q => ha T l _ fun v U lU o => by
  cases (show some v = some (V.ref a) from o)
  obtain ⟨v, e, d⟩ := (h.up (l.trans lU)).ha
  exact ⟨a, C, dx, _, _, rfl, e, c, n, rfl, q _ U lU (Da.str _)⟩
theorem ev_fnow (ha : Ev K ta σ S (.v (.ref a))) (h : Dk K C S a dx p1 p2 r now past gone) (c : Cls K C) (n : NoAttr K C "now") : EvD K (tFld K ta "now") σ S (eNow now) := fun T l Q q => ha T l _ fun v U lU o => by
  cases (show some v = some (V.ref a) from o)
  obtain ⟨v, e, d⟩ := (h.up (l.trans lU)).ha
  exact ⟨a, C, dx, _, _, rfl, e, c, n, rfl, q _ U lU d⟩
theorem ev_fpast (ha : Ev K ta σ S (.v (.ref a))) (h : Dk K C S a dx p1 p2 r now past gone) (c : Cls K C) (n : NoAttr K C "past") : Ev K (tFld K ta "past") σ S (.v (.ref p1)) := fun T l Q q => ha T l _ fun v U lU o => by
  cases (show some v = some (V.ref a) from o)
  obtain ⟨v, e, d⟩ := (h.up (l.trans lU)).ha
  exact ⟨a, C, dx, _, _, rfl, e, c, n, rfl, q _ U lU rfl⟩
theorem ev_fgone (ha : Ev K ta σ S (.v (.ref a))) (h : Dk K C S a dx p1 p2 r now past gone) (c : Cls K C) (n : NoAttr K C "gone") : Ev K (tFld K ta "gone") σ S (.v (.ref p2)) := fun T l Q q => ha T l _ fun v U lU o => by
  cases (show some v = some (V.ref a) from o)
  obtain ⟨v, e, d⟩ := (h.up (l.trans lU)).ha
  exact ⟨a, C, dx, _, _, rfl, e, c, n, rfl, q _ U lU rfl⟩
end
section
variable {K : PySem.W.Frag} {C : Addr} {σ : L2.St} {S T : Sit} {ta tv : TE} {X : Ends} {a dx p1 p2 : Addr} {r : Str} {now now' : Sta} {past gone past' gone' : List Sta}
theorem Dk.setPast (h : Dk K C S a dx p1 p2 r now past gone) (l : Lm [p1] S T) (o : Ow K T p1 (past'.map eNow)) : Dk K C T a dx p1 p2 r now past' gone := by
  obtain ⟨v, e, d⟩ := h.ha
  have nd := h.nd
  simp only [List.nodup_cons, List.mem_cons, List.not_mem_nil, or_false, not_or] at nd
  exact ⟨(l.2.2 a _ e).trans h.ga, (l.2.2 dx _ h.hd).trans h.gd, ⟨v, l.2.1 a _ (by simp [nd.1.2.1]) e, Da.up l.1 d⟩, l.2.1 dx _ (by simp [nd.2.1.1]) h.hd, o, h.o2.lm l (by simp [Ne.symm nd.2.2.1]), h.nd⟩
theorem Dk.setGone (h : Dk K C S a dx p1 p2 r now past gone) (l : Lm [p2] S T) (o : Ow K T p2 (gone'.map eNow)) : Dk K C T a dx p1 p2 r now past gone' := by
  obtain ⟨v, e, d⟩ := h.ha
  have nd := h.nd
  simp only [List.nodup_cons, List.mem_cons, List.not_mem_nil, or_false, not_or] at nd
  exact ⟨(l.2.2 a _ e).trans h.ga, (l.2.2 dx _ h.hd).trans h.gd, ⟨v, l.2.1 a _ (by simp [nd.1.2.2]) e, Da.up l.1 d⟩, l.2.1 dx _ (by simp [nd.2.1.2]) h.hd, h.o1.lm l (by simp [nd.2.2.1]), o, h.nd⟩
/-- self.now = e -/
theorem st_fnow (he : EvD K tv σ S (eNow now')) (ha : Ev K ta σ S (.v (.ref a))) (h : Dk K C S a dx p1 p2 r now past gone) (c : Cls K C) (n : NoAttr K C "now") (k : ∀ T, Lm [a] S T → Dk K C T a dx p1 p2 r now' past gone → X.nx σ T.H) : sFld K ta tv "now" X σ S.H :=
  he S (Le.refl S) _ fun y U lU oU => ha U lU _ fun v W lW o => by
    cases (show some v = some (V.ref a) from o)
    have lSW := lU.trans lW
    have hW := h.up lSW
    obtain ⟨v, e, d⟩ := hW.ha
    refine ⟨a, C, dx, _, rfl, e, c, n, by show 4 < 1000; decide, ?_⟩
    have nd := h.nd
    simp only [List.nodup_cons, List.mem_cons, List.not_mem_nil, or_false, not_or] at nd
    have l : Lm [a] W (W.mut a (.ins C dx (fldD r y p1 p2)) hW.ga) := ⟨Same.refl _, fun x u hx h => by
      show upd W.H a _ x = some u
      rw [upd_ne (fun z => hx (by simp [z]))]
      exact h, fun _ _ _ => rfl⟩
    refine k (W.mut a (.ins C dx (fldD r y p1 p2)) hW.ga) ?_ ⟨hW.ga, hW.gd, ⟨y, upd_same, Da.up lW.g oU⟩, l.2.1 dx _ (by simp [Ne.symm nd.1.1]) hW.hd, hW.o1.lm l (by simp [Ne.symm nd.1.2.1]), hW.o2.lm l (by simp [Ne.symm nd.1.2.2]), h.nd⟩
    exact lSW.tM l fun x hx => by simp at hx; subst hx; exact ⟨_, e⟩
theorem te_new0 {Q : VK} (k : ∀ p T, Le S T → Nw S p → Ow K T p [] → Q (.ref p) T.H) : tLst tNil σ S.H Q :=
  ⟨sz (by show 0 ≤ _; decide), fun p hp => k p (S.pushM p (.lst []) hp) (S.pushM_le hp) (Nw.of hp) ⟨S.gfree hp, [], upd_same, .nil⟩⟩
/-- self.gone = [] -/
theorem st_fgone (ha : Ev K ta σ S (.v (.ref a))) (h : Dk K C S a dx p1 p2 r now past gone) (c : Cls K C) (n : NoAttr K C "gone") (k : ∀ p T, Lm [a] S T → Nw S p → Dk K C T a dx p1 p r now past [] → X.nx σ T.H) : sFld K ta (tLst tNil) "gone" X σ S.H := by
  unfold sFld
  refine te_new0 (K := K) fun p U lU np op => ?_
  refine ha U lU _ fun v W lW o => ?_
  cases (show some v = some (V.ref a) from o)
  have lSW := lU.trans lW
  have hW := h.up lSW
  obtain ⟨v, e, d⟩ := hW.ha
  refine ⟨a, C, dx, _, rfl, e, c, n, by show 4 < 1000; decide, ?_⟩
  have nd := h.nd
  simp only [List.nodup_cons, List.mem_cons, List.not_mem_nil, or_false, not_or] at nd
  obtain ⟨v0, e0, d0⟩ := h.ha
  have na : a ≠ p := np a _ e0
  have nx : dx ≠ p := np dx _ h.hd
  have n1 : p1 ≠ p := by obtain ⟨o, ho⟩ := h.o1.has; exact np p1 o ho
  have l : Lm [a] W (W.mut a (.ins C dx (fldD r v p1 p)) hW.ga) := ⟨Same.refl _, fun x u hx h => by
    show upd W.H a _ x = some u
    rw [upd_ne (fun z => hx (by simp [z]))]
    exact h, fun _ _ _ => rfl⟩
  refine k p (W.mut a (.ins C dx (fldD r v p1 p)) hW.ga) ?_ np ⟨hW.ga, hW.gd, ⟨v, upd_same, d⟩, l.2.1 dx _ (by simp [Ne.symm nd.1.1]) hW.hd, hW.o1.lm l (by simp [Ne.symm nd.1.2.1]), (op.up lW).lm l (by simp [Ne.symm na]), ?_⟩
  · exact lSW.tM l fun x hx => by simp at hx; subst hx; exact ⟨_, e⟩
  · simp [nd.1.1, nd.1.2.1, na, nd.2.1.1, nx, n1]
end
section
variable {K : PySem.W.Frag} {C : Addr} {σ : L2.St} {S T : Sit} {ta tv : TE} {X : Ends} {a dx p1 p2 p : Addr} {r : Str} {now : Sta} {past gone : List Sta} {ds : List PyData} {d : PyData}
/-- not x, x a list of one's own -/
theorem eb_truO (ha : Ev K ta σ S (.v (.ref p))) (h : Ow K S p ds) : EvB K (fun σ H Q => ta σ H fun x H' => ∃ k, TruV K x H' k ∧ Q k H') σ S (!ds.isEmpty) := fun T l Q q => ha T l _ fun v U lU o => by
  cases (show some v = some (V.ref p) from o)
  obtain ⟨xs, e, d⟩ := (h.up (l.trans lU)).seq
  refine ⟨_, .inl ⟨xs, e, rfl⟩, ?_⟩
  have : xs.isEmpty = ds.isEmpty := by cases d <;> rfl
  rw [this]
  exact q U lU
/-- x.pop() of a list of one's own -/
theorem te_pop {Q : VK} (ha : Ev K ta σ S (.v (.ref p))) (h : Ow K S p (ds ++ [d])) (k : ∀ v T, Lm [p] S T → Ow K T p ds → Da K T.G v d → Q v T.H) : tBM0 K "list" rPop ta σ S.H Q := ha S (Le.refl S) _ fun v U l o => by
  cases (show some v = some (V.ref p) from o)
  obtain ⟨g, xs, e, q⟩ := h.up l
  refine ⟨.inl ⟨rfl, _, SqL.of e⟩, ?_⟩
  have key : ∀ {xs : List V} {ds : List PyData}, DaAll K U.G xs (ds ++ [d]) → ∃ ys y, xs = ys ++ [y] ∧ DaAll K U.G ys ds ∧ Da K U.G y d := by
    intro xs ds
    induction ds generalizing xs with
    | nil =>
      intro h
      cases h with
      | cons a t => cases t; exact ⟨[], _, rfl, .nil, a⟩
    | cons x ds ih =>
      intro h
      cases h with
      | cons a t =>
        obtain ⟨ys, y, rfl, h1, h2⟩ := ih t
        exact ⟨_ :: ys, y, rfl, .cons a h1, h2⟩
  obtain ⟨ys, y, rfl, h1, h2⟩ := key q
  refine ⟨p, ys ++ [y], y, rfl, rfl, e, by simp, ?_⟩
  rw [List.dropLast_concat]
  have a : Lm [p] U (U.mut p (.lst ys) g) := ⟨Same.refl _, fun x u hx h => by
    show upd U.H p _ x = some u
    rw [upd_ne (fun z => hx (by simp [z]))]
    exact h, fun _ _ _ => rfl⟩
  exact k y (U.mut p (.lst ys) g) (l.tM a fun x hx => by simp at hx; subst hx; exact ⟨_, e⟩) ⟨g, ys, upd_same, h1⟩ h2
end
end MW

set_option Elab.async false
set_option linter.all false
set_option maxRecDepth 100000
set_option maxHeartbeats 4000000
namespace MW
open PySem PySem.Spec PyProof.Rows L2
set_option autoImplicit false
abbrev cD (K : PySem.W.Frag) : Addr := He.ga K "Desk"
def eFt (fl : List Mk) : PyData := .tuple (fl.map eM)
def sp_marksT (K : PySem.W.Frag) : Sp := fun vs H Q _ => ∃ (S : Sit) (fl : List Mk), S.H = H ∧ Vs K S.G vs [.d (eFt fl)] ∧ fl.length ≤ 500000 ∧ ∀ p T, Le S T → Nw S p → Dc T p (marksD fl) → Q (.ref p) T.H
/-- a deed comes -/
def sp_do (K : PySem.W.Frag) : Sp := fun vs H Q _ => ∃ (S : Sit) (a dx p1 p2 pc : Addr) (r : Str) (now : Sta) (past gone : List Sta) (wk : Wk) (D : Dd Int) (n : Int), S.H = H ∧ Vs K S.G vs [.v (.ref a), .d (eW3 wk), .v (.ref pc), .d (.int n)] ∧ Dk K (cD K) S a dx p1 p2 r now past gone ∧ Dc S pc D ∧ Nk D ∧ D.length ≤ 500000 ∧ past.length < 800000 ∧
  ∀ p T, Lm [a, p1] S T → Nw S p → Dk K (cD K) T a dx p1 p r ⟨wk, toldL D, n⟩ (past ++ [now]) [] → Q .non T.H
theorem Dk.ne {K : PySem.W.Frag} {C : Addr} {S : Sit} {a dx p1 p2 q : Addr} {r : Str} {now : Sta} {past gone : List Sta} (h : Dk K C S a dx p1 p2 r now past gone) {D : Dd Int} (hD : Dc S q D) : q ≠ a ∧ q ≠ p1 ∧ q ≠ p2 := by
  obtain ⟨v, e, d⟩ := h.ha
  refine ⟨fun z => ?_, fun z => ?_, fun z => ?_⟩
  · have y := hD.2
    rw [z, e] at y
    cases y
  · obtain ⟨_, xs, e1, _⟩ := h.o1
    have y := hD.2
    rw [z, e1] at y
    cases y
  · obtain ⟨_, xs, e1, _⟩ := h.o2
    have y := hD.2
    rw [z, e1] at y
    cases y
/-! ### promises of the methods -/
structure Dok (r : Str) (now : Sta) : Prop where
  ro : ruleOk r = true
  co : ∀ m ∈ now.fl, 0 ≤ m.2.2 ∧ m.2.2 < (r.length : Int)
  le : now.fl.length ≤ 100000
  hd : 0 ≤ now.wk.2.2 ∧ now.wk.2.2 < 4
def sp_dk (K : PySem.W.Frag) (ss : List Sl) (F : Sit → Addr → Addr → Addr → Addr → Str → Sta → List Sta → List Sta → VK → XK → Prop) : Sp := fun vs H Q E => ∃ (S : Sit) (a dx p1 p2 : Addr) (r : Str) (now : Sta) (past gone : List Sta), S.H = H ∧ Vs K S.G vs (.v (.ref a) :: ss) ∧ Dk K (cD K) S a dx p1 p2 r now past gone ∧ F S a dx p1 p2 r now past gone Q E
def sp_walker (K : PySem.W.Frag) : Sp := sp_dk K [] fun S _ _ _ _ _ now _ _ Q _ => ∀ v T, Le S T → Da K T.G v (eW3 now.wk) → Q v T.H
def sp_steps (K : PySem.W.Frag) : Sp := sp_dk K [] fun S _ _ _ _ _ now _ _ Q _ => ∀ v T, Le S T → Da K T.G v (.int now.st) → Q v T.H
def sp_floor (K : PySem.W.Frag) : Sp := sp_dk K [] fun S _ _ _ _ _ now _ _ Q _ => NewL K S (now.fl.map eM) Q
def sp_undo (K : PySem.W.Frag) : Sp := sp_dk K [] fun S a dx p1 p2 r now past gone Q _ => gone.length < 800000 ∧ (past = [] → ∀ T, Le S T → Q (.bl false) T.H) ∧ ∀ us s, past = us ++ [s] → ∀ T, Lm [a, p1, p2] S T → Dk K (cD K) T a dx p1 p2 r s us (gone ++ [now]) → Q (.bl true) T.H
def sp_redo (K : PySem.W.Frag) : Sp := sp_dk K [] fun S a dx p1 p2 r now past gone Q _ => past.length < 800000 ∧ (gone = [] → ∀ T, Le S T → Q (.bl false) T.H) ∧ ∀ us s, gone = us ++ [s] → ∀ T, Lm [a, p1, p2] S T → Dk K (cD K) T a dx p1 p2 r s (past ++ [now]) us → Q (.bl true) T.H
theorem evf_lstOfT {K : PySem.W.Frag} {σ : L2.St} {S : Sit} {ta : TE} {ds : List PyData} (ha : EvD K ta σ S (.tuple ds)) : EvF K (tCB (rLstOf K) (tCons ta tNil)) σ S ds := fun T l Q q => ha T l _ fun v U lU o => by
  obtain ⟨a, xs, rfl, h1, h2⟩ := Da.tup_eq o
  exact ⟨a, xs, rfl, .inr (SqT.of (U.sub _ _ h1)), fun p hp => q p (U.pushM p (.lst xs) hp) (lU.trans (U.pushM_le hp)) (fresh_le lU hp) ⟨U.gfree hp, xs, upd_same, h2⟩⟩
theorem lm3 {S T U W : Sit} {a p1 p2 : Addr} {x y z : Addr} (hx : x ∈ [a, p1, p2]) (hy : y ∈ [a, p1, p2]) (hz : z ∈ [a, p1, p2]) (l1 : Lm [x] S T) (l2 : Lm [y] T U) (l3 : Lm [z] U W) (ex : ∃ o, T.H x = some o) (ey : ∃ o, U.H y = some o) (ey1 : ∃ o, T.H y = some o) (ez : ∃ o, U.H z = some o) (ex2 : ∃ o, U.H x = some o) : Lm [a, p1, p2] S W := by
  have a1 := l1.transM l2 (fun q hq => by simp at hq; subst hq; exact ey1) (fun q hq => by simp at hq; subst hq; exact ex)
  have a2 := a1.transM l3 (fun q hq => by simp at hq; subst hq; exact ez) (fun q hq => by
    simp at hq
    rcases hq with rfl | rfl
    · exact ex2
    · exact ey)
  exact ⟨a2.1, fun q o nq hq => a2.2.1 q o (fun c => nq (by
    simp at c
    rcases c with rfl | rfl | rfl
    · exact hx
    · exact hy
    · exact hz)) hq, a2.2.2⟩
/-- self.now = self.past.pop() -/
theorem st_fpop1 {K : PySem.W.Frag} {C : Addr} {σ : L2.St} {S : Sit} {ta : TE} {X : Ends} {a dx p1 p2 : Addr} {r : Str} {now s : Sta} {gone us : List Sta} (ha : ∀ T, Same S.G T.G → Ev K ta σ T (.v (.ref a))) (h : Dk K C S a dx p1 p2 r now (us ++ [s]) gone) (c : Cls K C) (n : NoAttr K C "now") (n2 : NoAttr K C "past") (k : ∀ U T, Lm [p1] S U → Lm [a] U T → (∃ o, U.H a = some o) → (∃ o, U.H p1 = some o) → Dk K C T a dx p1 p2 r s us gone → X.nx σ T.H) :
    sFld K ta (tBM0 K "list" rPop (tFld K ta "past")) "now" X σ S.H := by
  unfold sFld
  refine te_pop (ds := us.map eNow) (d := eNow s) (ev_fpast (ha S (Same.refl _)) h c n2) (by have z := h.o1; rw [List.map_append] at z; exact z) fun y U lU oU dU => ?_
  have hU := h.setPast lU oU
  refine ha U lU.g U (Le.refl U) _ fun v W lW o => ?_
  cases (show some v = some (V.ref a) from o)
  have hW := hU.up lW
  obtain ⟨v, e, d⟩ := hW.ha
  refine ⟨a, C, dx, _, rfl, e, c, n, by show 4 < 1000; decide, ?_⟩
  have nd := h.nd
  simp only [List.nodup_cons, List.mem_cons, List.not_mem_nil, or_false, not_or] at nd
  have l : Lm [a] W (W.mut a (.ins C dx (fldD r y p1 p2)) hW.ga) := ⟨Same.refl _, fun x u hx h => by
    show upd W.H a _ x = some u
    rw [upd_ne (fun z => hx (by simp [z]))]
    exact h, fun _ _ _ => rfl⟩
  obtain ⟨v0, e0, _⟩ := hU.ha
  refine k U (W.mut a (.ins C dx (fldD r y p1 p2)) hW.ga) lU (lW.tM l fun x hx => by simp at hx; subst hx; exact ⟨_, e⟩) ⟨_, e0⟩ oU.has ⟨hW.ga, hW.gd, ⟨y, upd_same, Da.up lW.g dU⟩, l.2.1 dx _ (by simp [Ne.symm nd.1.1]) hW.hd, hW.o1.lm l (by simp [Ne.symm nd.1.2.1]), hW.o2.lm l (by simp [Ne.symm nd.1.2.2]), h.nd⟩
/-- self.now = self.gone.pop() -/
theorem st_fpop2 {K : PySem.W.Frag} {C : Addr} {σ : L2.St} {S : Sit} {ta : TE} {X : Ends} {a dx p1 p2 : Addr} {r : Str} {now s : Sta} {past us : List Sta} (ha : ∀ T, Same S.G T.G → Ev K ta σ T (.v (.ref a))) (h : Dk K C S a dx p1 p2 r now past (us ++ [s])) (c : Cls K C) (n : NoAttr K C "now") (n2 : NoAttr K C "gone") (k : ∀ U T, Lm [p2] S U → Lm [a] U T → (∃ o, U.H a = some o) → (∃ o, U.H p2 = some o) → Dk K C T a dx p1 p2 r s past us → X.nx σ T.H) :
    sFld K ta (tBM0 K "list" rPop (tFld K ta "gone")) "now" X σ S.H := by
  unfold sFld
  refine te_pop (ds := us.map eNow) (d := eNow s) (ev_fgone (ha S (Same.refl _)) h c n2) (by have z := h.o2; rw [List.map_append] at z; exact z) fun y U lU oU dU => ?_
  have hU := h.setGone lU oU
  refine ha U lU.g U (Le.refl U) _ fun v W lW o => ?_
  cases (show some v = some (V.ref a) from o)
  have hW := hU.up lW
  obtain ⟨v, e, d⟩ := hW.ha
  refine ⟨a, C, dx, _, rfl, e, c, n, by show 4 < 1000; decide, ?_⟩
  have nd := h.nd
  simp only [List.nodup_cons, List.mem_cons, List.not_mem_nil, or_false, not_or] at nd
  have l : Lm [a] W (W.mut a (.ins C dx (fldD r y p1 p2)) hW.ga) := ⟨Same.refl _, fun x u hx h => by
    show upd W.H a _ x = some u
    rw [upd_ne (fun z => hx (by simp [z]))]
    exact h, fun _ _ _ => rfl⟩
  obtain ⟨v0, e0, _⟩ := hU.ha
  refine k U (W.mut a (.ins C dx (fldD r y p1 p2)) hW.ga) lU (lW.tM l fun x hx => by simp at hx; subst hx; exact ⟨_, e⟩) ⟨_, e0⟩ oU.has ⟨hW.ga, hW.gd, ⟨y, upd_same, Da.up lW.g dU⟩, l.2.1 dx _ (by simp [Ne.symm nd.1.1]) hW.hd, hW.o1.lm l (by simp [Ne.symm nd.1.2.1]), hW.o2.lm l (by simp [Ne.symm nd.1.2.2]), h.nd⟩
end MW

set_option Elab.async false
set_option linter.all false
set_option maxRecDepth 100000
set_option maxHeartbeats 4000000
namespace MW
open PySem PySem.Spec PyProof.Rows L2
set_option autoImplicit false
/-! ### a new dict of colours, told within an expression -/
def EvC (K : PySem.W.Frag) (te : TE) (σ : L2.St) (S : Sit) (D : Dd Int) : Prop := ∀ T, Le S T → ∀ Q : VK, (∀ p U, Le T U → Nw T p → Dc U p D → Q (.ref p) U.H) → te σ T.H Q
section
variable {K : PySem.W.Frag} {C : Addr} {σ : L2.St} {S : Sit} {δ : List Sl} {ta tb tc tv : TE} {tr : TA} {X : Ends} {E : XK} {a dx p1 p2 : Addr} {r : Str} {now : Sta} {past gone : List Sta} {fl : List Mk} {D : Dd Int} {d e : PyData} {sp : Sp} {ss : List Sl} {m : Str} {Q : VK}
theorem evc_marksT (ha : EvA K tr σ S [.d (eFt fl)]) (hl : fl.length ≤ 500000) : EvC K (tCall (sp_marksT K) [] E tr) σ S (marksD fl) := fun T l Q q => ha T l _ fun vs U lU hv => by
  rw [List.append_nil]
  exact ⟨U, fl, rfl, hv, hl, fun p W lW np d => q p W (lU.trans lW) (np.back lU) d⟩
theorem st_parC {i j : Nat} (hE : Sv K S.G σ δ) (h1 : EvD K ta σ S d) (h2 : EvC K tb σ S D) (k : ∀ p σ' T, Le S T → Nw S p → Dc T p D → Sv K T.G σ' ((δ.set i (.d d)).set j (.v (.ref p))) → X.nx σ' T.H) : tPar i j (tCons ta (tCons tb tNil)) X σ S.H :=
  h1 S (Le.refl S) _ fun v U l o => h2 U l _ fun p W lW np dW => ⟨v, .ref p, rfl, k p _ W (l.trans lW) (np.back l) dW (Sv.set (slOk_v (K := K) (G := W.G) (.ref p)) j (Sv.set (slOk_d (Da.up lW.g o)) i (hE.up (l.trans lW).g)))⟩
theorem st_asgC2 {i : Nat} (hE : Sv K S.G σ δ) (h2 : EvC K tb σ S D) (k : ∀ p σ' T, Le S T → Nw S p → Dc T p D → Sv K T.G σ' (δ.set i (.v (.ref p))) → X.nx σ' T.H) : tAsg tb (gName i) X σ S.H :=
  h2 S (Le.refl S) _ fun p W lW np dW => k p _ W lW np dW (Sv.set (slOk_v (K := K) (G := W.G) (.ref p)) i (hE.up lW.g))
/-- o.m(..) of a desk -/
theorem te_mt (ha : Ev K ta σ S (.v (.ref a))) (h : Dk K C S a dx p1 p2 r now past gone) (hr : EvA K tr σ S ss) (k : ∀ vs T, Le S T → Vs K T.G vs ss → sp (.ref a :: vs) T.H Q E) (hm : ∀ v, (fldD r v p1 p2).lookup m = none := by intro _; rfl) : tMeth C m sp [] E ta tr σ S.H Q :=
  ha S (Le.refl S) _ fun v U l o => by
    cases (show some v = some (V.ref a) from o)
    obtain ⟨v, e, _⟩ := (h.up l).ha
    refine ⟨a, dx, _, rfl, e, hm v, hr U l _ fun vs T lT o => ?_⟩
    rw [List.append_nil]
    exact k vs T (l.trans lT) o
/-- o.m(e, d, e) with a new dict d -/
theorem te_mtC (ha : Ev K ta σ S (.v (.ref a))) (h : Dk K C S a dx p1 p2 r now past gone) (h1 : EvD K tv σ S d) (h2 : EvC K tb σ S D) (h3 : EvD K tc σ S e) (k : ∀ v p w T, Le S T → Nw S p → Dc T p D → Da K T.G v d → Da K T.G w e → sp [.ref a, v, .ref p, w] T.H Q E) (hm : ∀ v, (fldD r v p1 p2).lookup m = none := by intro _; rfl) : tMeth C m sp [] E ta (tCons tv (tCons tb (tCons tc tNil))) σ S.H Q :=
  ha S (Le.refl S) _ fun v U l o => by
    cases (show some v = some (V.ref a) from o)
    obtain ⟨v, ee, _⟩ := (h.up l).ha
    refine ⟨a, dx, _, rfl, ee, hm v, h1 U l _ fun v1 U1 l1 o1 => h2 U1 (l.trans l1) _ fun p U2 l2 np d2 => h3 U2 ((l.trans l1).trans l2) _ fun w U3 l3 o3 => ?_⟩
    exact k v1 p w U3 (((l.trans l1).trans l2).trans l3) (np.back (l.trans l1)) (d2.up l3) (Da.up (l2.trans l3).g o1) o3
end
/-! ### what the deeds do -/
def catS (l : List Int) : Str := l.foldl (fun x i => x ++ strI i) ""
theorem catS_app (l : List Int) (i : Int) : catS (l ++ [i]) = catS l ++ strI i := by unfold catS; rw [List.foldl_append]; rfl
theorem catS_len {l : List Int} (h : ∀ c ∈ l, 0 ≤ c ∧ c < 5) : (catS l).length = l.length := by
  have key : ∀ (l : List Int) (x : Str), (∀ c ∈ l, 0 ≤ c ∧ c < 5) → (l.foldl (fun x i => x ++ strI i) x).length = x.length + l.length := by
    intro l
    induction l with
    | nil => intro x _; rfl
    | cons c l ih =>
      intro x h
      rw [List.foldl_cons, ih _ fun y hy => h y (by simp [hy]), str_len_app, strI_len (h c (by simp)), List.length_cons]
      omega
  have z := key l "" h
  unfold catS
  rw [z]
  show 0 + _ = _
  omega
abbrev gS (r : Str) (s : Sta) (n : Nat) : Dd Int × Wk := itG r (marksD s.fl, s.wk) n
abbrev bS (r : Str) (s : Sta) (n : Nat) : Dd Int × Wk := itB r (marksD s.fl, s.wk) n
def onT (r : Str) (s : Sta) (n : Nat) : Str := catS (goSs r (marksD s.fl, s.wk) n)
def onS (r : Str) (s : Sta) (n : Nat) : Sta := ⟨(gS r s n).2, toldL (gS r s n).1, s.st + (n : Int)⟩
def bkS (r : Str) (s : Sta) (n : Nat) : Sta := ⟨(bS r s n).2, toldL (bS r s n).1, s.st - (n : Int)⟩
def mkS (s : Sta) (x y c : Int) : Sta := ⟨s.wk, toldL (dput (marksD s.fl) (x, y) c), s.st⟩
def ptS (s : Sta) (wk : Wk) : Sta := ⟨wk, toldL (marksD s.fl), s.st⟩
def mkBad (r : Str) (x y c : Int) : Bool := (!(decide (0 - 100 ≤ x) && decide (x ≤ 100))) || ((!(decide (0 - 100 ≤ y) && decide (y ≤ 100))) || (!(decide (0 ≤ c) && decide (c < (r.length : Nat)))))
theorem goSs_cols {r : Str} {s : Dd Int × Wk} {m : Nat} (hr : 2 ≤ r.length ∧ r.length ≤ 5) (ok : Okc r s.1 m) (n : Nat) : ∀ c ∈ goSs r s n, 0 ≤ c ∧ c < 5 := fun c hc => by
  unfold goSs at hc
  obtain ⟨k, _, rfl⟩ := List.mem_map.mp hc
  have z := (itG_ok hr.1 ok k).cl.at hr.1 ((itG r s k).2.1, (itG r s k).2.2.1)
  omega
/-- what a deed leaves -/
def Did (K : PySem.W.Frag) (S : Sit) (a dx p1 : Addr) (r : Str) (s : Sta) (past : List Sta) (k : Sit → Prop) : Prop := ∀ p T, Lm [a, p1] S T → Nw S p → Dk K (cD K) T a dx p1 p r s past [] → k T
def sp_on (K : PySem.W.Frag) : Sp := fun vs H Q E => ∃ n : Int, sp_dk K [.d (.int n)] (fun S a dx p1 _ r now past _ Q E => Dok r now ∧ past.length < 800000 ∧ (mOk n 500 = false → ∀ T, Le S T → E (.ref (cE K "BadNumber")) none T.H) ∧ ∀ m : Nat, n = m → m ≤ 500 → Did K S a dx p1 r (onS r now m) (past ++ [now]) fun T => Q (.str (onT r now m)) T.H) vs H Q E
def sp_return_by (K : PySem.W.Frag) : Sp := fun vs H Q E => ∃ n : Int, sp_dk K [.d (.int n)] (fun S a dx p1 _ r now past _ Q E => Dok r now ∧ past.length < 800000 ∧ (mOk n 500 = false → ∀ T, Le S T → E (.ref (cE K "BadNumber")) none T.H) ∧ ∀ m : Nat, n = m → m ≤ 500 → Did K S a dx p1 r (bkS r now m) (past ++ [now]) fun T => Q .non T.H) vs H Q E
def sp_mark (K : PySem.W.Frag) : Sp := fun vs H Q E => ∃ x y c : Int, sp_dk K [.d (.int x), .d (.int y), .d (.int c)] (fun S a dx p1 _ r now past _ Q E => Dok r now ∧ past.length < 800000 ∧ (mkBad r x y c = true → ∀ T, Le S T → E (.ref (cE K "BadNumber")) none T.H) ∧ (mkBad r x y c = false → Did K S a dx p1 r (mkS now x y c) (past ++ [now]) fun T => Q (.int (at0 (marksD now.fl) (x, y))) T.H)) vs H Q E
def sp_put (K : PySem.W.Frag) : Sp := fun vs H Q E => ∃ w : List Int, sp_dk K [.d (eW w)] (fun S a dx p1 _ r now past _ Q E => Dok r now ∧ past.length < 800000 ∧ w.length ≤ 1000 ∧ (wOk w = false → ∀ T, Le S T → E (.ref (cE K "BadWalker")) none T.H) ∧ ∀ wk, wOk w = true → w = w3 wk → Did K S a dx p1 r (ptS now wk) (past ++ [now]) fun T => ∀ v, Da K T.G v (eW3 now.wk) → Q v T.H) vs H Q E
/-! ### a new desk -/
def sp_init (K : PySem.W.Frag) : Sp := fun vs H Q E => ∃ (S : Sit) (a dx : Addr) (r : Str) (w : List Int) (fl : List Mk), S.H = H ∧ Vs K S.G vs [.v (.ref a), .d (.str r), .d (eW w), .d (eF fl)] ∧ S.G a = none ∧ S.G dx = none ∧ S.H a = some (.ins (cD K) dx []) ∧ S.H dx = some (.own a) ∧ a ≠ dx ∧ Sz r w fl ∧
  (∀ x, bad3 r w fl = some x → ∀ T, Le S T → E (.ref (cE K x)) none T.H) ∧ (bad3 r w fl = none → ∀ wk, w = w3 wk → ∀ p1 p2 T, Lm [a] S T → Nw S p1 → Nw S p2 → Dk K (cD K) T a dx p1 p2 r ⟨wk, fl, 0⟩ [] [] → Q .non T.H)
section
variable {K : PySem.W.Frag} {C : Addr} {σ : L2.St} {S : Sit} {δ : List Sl} {ta tv : TE} {tr : TA} {X : Ends} {E : XK} {a dx : Addr} {fs : List (Str × V)} {f : Str} {s : Sl} {r : Str} {w : List Int} {wk : Wk} {fl : List Mk} {Q : VK}
theorem lm_mut {o : HO} (hg : S.G a = none) {ht : ∀ xs, o ≠ .tup xs} : Lm [a] S (S.mut a o hg ht) := ⟨Same.refl _, fun x u hx h => by
    show upd S.H a _ x = some u
    rw [upd_ne (fun z => hx (by simp [z]))]
    exact h, fun _ _ _ => rfl⟩
theorem st_fldN (he : Ev K tv σ S s) (ha : Ev K ta σ S (.v (.ref a))) (hg : S.G a = none) (hh : S.H a = some (.ins C dx fs)) (c : Cls K C) (n : NoAttr K C f) (hl : fs.length < 1000) (k : ∀ y T, Lm [a] S T → T.G a = none → T.H a = some (.ins C dx (putF f y fs)) → VOk K T.G y s → X.nx σ T.H) : sFld K ta tv f X σ S.H :=
  he S (Le.refl S) _ fun y U lU oU => ha U lU _ fun v W lW o => by
    cases (show some v = some (V.ref a) from o)
    have l := lU.trans lW
    have gW : W.G a = none := (l.2.2 a _ hh).trans hg
    have hW := l.2.1 a _ hh
    refine ⟨a, C, dx, fs, rfl, hW, c, n, hl, ?_⟩
    exact k y (W.mut a (.ins C dx (putF f y fs)) gW) (l.tM (lm_mut gW) fun x hx => by simp at hx; subst hx; exact ⟨_, hW⟩) gW upd_same (oU.up lW.g)
theorem st_fldL (ha : Ev K ta σ S (.v (.ref a))) (hg : S.G a = none) (hh : S.H a = some (.ins C dx fs)) (c : Cls K C) (n : NoAttr K C f) (hl : fs.length < 1000) (k : ∀ p T, Lm [a] S T → Nw S p → Ow K T p [] → T.G a = none → T.H a = some (.ins C dx (putF f (.ref p) fs)) → X.nx σ T.H) : sFld K ta (tLst tNil) f X σ S.H := by
  unfold sFld
  refine te_new0 (K := K) fun p U lU np op => ?_
  refine ha U lU _ fun v W lW o => ?_
  cases (show some v = some (V.ref a) from o)
  have l := lU.trans lW
  have gW : W.G a = none := (l.2.2 a _ hh).trans hg
  have hW := l.2.1 a _ hh
  refine ⟨a, C, dx, fs, rfl, hW, c, n, hl, ?_⟩
  have z : Lm [a] W (W.mut a (.ins C dx (putF f (.ref p) fs)) gW) := lm_mut gW
  exact k p (W.mut a (.ins C dx (putF f (.ref p) fs)) gW) (l.tM z fun x hx => by simp at hx; subst hx; exact ⟨_, hW⟩) np ((op.up lW).lm z (by simp [Ne.symm (np a _ hh)])) gW upd_same
theorem te_make (ha : EvA K tr σ S [.d (.str r), .d (eW w), .d (eF fl)]) (hz : Sz r w fl) (hb : bad3 r w fl = none) (hw : w = w3 wk) (k : ∀ a dx p1 p2 T, Le S T → Nw S a → Nw S dx → Nw S p1 → Nw S p2 → Dk K (cD K) T a dx p1 p2 r ⟨wk, fl, 0⟩ [] [] → Q (.ref a) T.H) : tMake (cD K) (sp_init K) [] E tr σ S.H Q :=
  ha S (Le.refl S) _ fun vs T l o a dx h1 h2 h3 => by
    rw [List.append_nil]
    have h1' : (T.pushM dx (.own a) h2).H a = none := by
      show upd T.H dx _ a = none
      rw [upd_ne (Ne.symm h3)]
      exact h1
    have lA := T.pushM_le h2 (o := .own a) (ht := fun _ z => HO.noConfusion z)
    have lB := (T.pushM dx (.own a) h2).pushM_le h1' (o := .ins (cD K) dx []) (ht := fun _ z => HO.noConfusion z)
    refine ⟨(T.pushM dx (.own a) h2).pushM a (.ins (cD K) dx []) h1', a, dx, r, w, fl, rfl, .cons rfl (Vs.up (lA.trans lB).g o), T.gfree h1, T.gfree h2, upd_same, ?_, Ne.symm h3, hz, (fun x e => by rw [hb] at e; cases e), fun _ wk' e p1 p2 U lU n1 n2 dk => ⟨rfl, ?_⟩⟩
    · show upd (upd T.H dx _) a _ dx = _
      rw [upd_ne h3, upd_same]
    · rw [hw] at e
      cases w3_inj e
      have lS := l.trans (lA.trans lB)
      refine k a dx p1 p2 U ?_ (Nw.back l (Nw.of h1)) (Nw.back l (Nw.of h2)) (n1.back lS) (n2.back lS) dk
      refine lm_leM (l.trans (lA.trans lB)) lU fun m hm => ?_
      simp at hm
      subst hm
      exact (Nw.back l (Nw.of h1)).none
end
end MW

set_option Elab.async false
set_option linter.all false
set_option maxRecDepth 100000
set_option maxHeartbeats 4000000
namespace MW
open PySem PySem.Spec PyProof.Rows L2
set_option autoImplicit false
/-! ### the law's own state of a desk: a dict of now, past, gone -/
def eOwn (s : Sta) : PyData := .tuple [eW3 s.wk, eF s.fl, .int s.st]
abbrev odKV (v : V) (q1 q2 : Addr) : List (L2.Key × V) := [(.inr "now", v), (.inr "past", .ref q1), (.inr "gone", .ref q2)]
structure Od (K : PySem.W.Frag) (T : Sit) (b q1 q2 : Addr) (now : Sta) (past gone : List Sta) : Prop where
  gb : T.G b = none
  hb : ∃ v, T.H b = some (.dK (odKV v q1 q2)) ∧ Da K T.G v (eOwn now)
  o1 : Ow K T q1 (past.map eOwn)
  o2 : Ow K T q2 (gone.map eOwn)
  nd : [b, q1, q2].Nodup
theorem Od.lm {K : PySem.W.Frag} {S T : Sit} {b q1 q2 : Addr} {now : Sta} {past gone : List Sta} {M : List Addr} (h : Od K S b q1 q2 now past gone) (l : Lm M S T) (hM : ∀ q ∈ [b, q1, q2], q ∉ M) : Od K T b q1 q2 now past gone := by
  obtain ⟨v, e, d⟩ := h.hb
  exact ⟨(l.2.2 b _ e).trans h.gb, ⟨v, l.2.1 b _ (hM b (by simp)) e, Da.up l.1 d⟩, h.o1.lm l (hM q1 (by simp)), h.o2.lm l (hM q2 (by simp)), h.nd⟩
theorem Od.up {K : PySem.W.Frag} {S T : Sit} {b q1 q2 : Addr} {now : Sta} {past gone : List Sta} (h : Od K S b q1 q2 now past gone) (l : Le S T) : Od K T b q1 q2 now past gone := h.lm (l.lm []) (by simp)
theorem val_now (v : V) (q1 q2 : Addr) : valV (odKV v q1 q2) (.inr "now") = some v := by simp [valV, odKV]
theorem val_past (v : V) (q1 q2 : Addr) : valV (odKV v q1 q2) (.inr "past") = some (.ref q1) := by
  have e : ¬ (("now" : Str) = "past") := by decide
  simp [valV, odKV, List.find?_cons, e]
theorem val_gone (v : V) (q1 q2 : Addr) : valV (odKV v q1 q2) (.inr "gone") = some (.ref q2) := by
  have e : ¬ (("now" : Str) = "gone") := by decide
  have e2 : ¬ (("past" : Str) = "gone") := by decide
  simp [valV, odKV, List.find?_cons, e, e2]
theorem put_now (v y : V) (q1 q2 : Addr) : putK (odKV v q1 q2) (.inr "now") y = odKV y q1 q2 := by
  have e : ¬ (("past" : Str) = "now") := by decide
  have e2 : ¬ (("gone" : Str) = "now") := by decide
  simp [putK, odKV, e, e2]
theorem put_gone (v : V) (q1 q2 q : Addr) : putK (odKV v q1 q2) (.inr "gone") (.ref q) = odKV v q1 q := by
  have e : ¬ (("past" : Str) = "gone") := by decide
  have e2 : ¬ (("now" : Str) = "gone") := by decide
  simp [putK, odKV, e, e2]
section
variable {K : PySem.W.Frag} {σ : L2.St} {S T : Sit} {δ : List Sl} {ta tb td ty tv : TE} {X : Ends} {b q1 q2 : Addr} {now now' s : Sta} {past gone past' gone' us : List Sta}
theorem ev_odnow (hd : Ev K td σ S (.v (.ref b))) (hk : EvD K ty σ S (.str "now")) (h : Od K S b q1 q2 now past gone) : EvD K (tDGet td ty) σ S (eOwn now) := fun T l Q q => hd T l _ fun x U lU o => hk U (l.trans lU) _ fun y W lW oy => by
  cases (show some x = some (V.ref b) from o)
  have ey := Da.str_eq oy
  subst ey
  have hW := h.up ((l.trans lU).trans lW)
  obtain ⟨v, e, d⟩ := hW.hb
  refine ⟨b, v, rfl, ?_, q v W (lU.trans lW) d⟩
  have z := DGet.k (k := .inr "now") e
  rw [val_now] at z
  exact z
theorem ev_odpast (hd : Ev K td σ S (.v (.ref b))) (hk : EvD K ty σ S (.str "past")) (h : Od K S b q1 q2 now past gone) : Ev K (tDGet td ty) σ S (.v (.ref q1)) := fun T l Q q => hd T l _ fun x U lU o => hk U (l.trans lU) _ fun y W lW oy => by
  cases (show some x = some (V.ref b) from o)
  have ey := Da.str_eq oy
  subst ey
  have hW := h.up ((l.trans lU).trans lW)
  obtain ⟨v, e, d⟩ := hW.hb
  refine ⟨b, _, rfl, ?_, q _ W (lU.trans lW) rfl⟩
  have z := DGet.k (k := .inr "past") e
  rw [val_past] at z
  exact z
theorem ev_odgone (hd : Ev K td σ S (.v (.ref b))) (hk : EvD K ty σ S (.str "gone")) (h : Od K S b q1 q2 now past gone) : Ev K (tDGet td ty) σ S (.v (.ref q2)) := fun T l Q q => hd T l _ fun x U lU o => hk U (l.trans lU) _ fun y W lW oy => by
  cases (show some x = some (V.ref b) from o)
  have ey := Da.str_eq oy
  subst ey
  have hW := h.up ((l.trans lU).trans lW)
  obtain ⟨v, e, d⟩ := hW.hb
  refine ⟨b, _, rfl, ?_, q _ W (lU.trans lW) rfl⟩
  have z := DGet.k (k := .inr "gone") e
  rw [val_gone] at z
  exact z
theorem Od.setPast (h : Od K S b q1 q2 now past gone) (l : Lm [q1] S T) (o : Ow K T q1 (past'.map eOwn)) : Od K T b q1 q2 now past' gone := by
  obtain ⟨v, e, d⟩ := h.hb
  have nd := h.nd
  simp only [List.nodup_cons, List.mem_cons, List.not_mem_nil, or_false, not_or] at nd
  exact ⟨(l.2.2 b _ e).trans h.gb, ⟨v, l.2.1 b _ (by simp [nd.1.1]) e, Da.up l.1 d⟩, o, h.o2.lm l (by simp [Ne.symm nd.2.1]), h.nd⟩
theorem Od.setGone (h : Od K S b q1 q2 now past gone) (l : Lm [q2] S T) (o : Ow K T q2 (gone'.map eOwn)) : Od K T b q1 q2 now past gone' := by
  obtain ⟨v, e, d⟩ := h.hb
  have nd := h.nd
  simp only [List.nodup_cons, List.mem_cons, List.not_mem_nil, or_false, not_or] at nd
  exact ⟨(l.2.2 b _ e).trans h.gb, ⟨v, l.2.1 b _ (by simp [nd.1.2]) e, Da.up l.1 d⟩, h.o1.lm l (by simp [nd.2.1]), o, h.nd⟩
/-- the value at now is put -/
theorem Od.put {y : V} (h : Od K S b q1 q2 now past gone) (o : Da K S.G y (eOwn now')) (hl : (3 : Nat) < sizeLine := by decide) : ∃ H4, DPut S.H b (.str "now") y H4 ∧ ∃ T : Sit, T.H = H4 ∧ Lm [b] S T ∧ Od K T b q1 q2 now' past gone := by
  obtain ⟨v, e, d⟩ := h.hb
  have nd := h.nd
  simp only [List.nodup_cons, List.mem_cons, List.not_mem_nil, or_false, not_or] at nd
  have l : Lm [b] S (S.mut b (.dK (odKV y q1 q2)) h.gb) := lm_mut h.gb
  refine ⟨_, DPut.k (k := .inr "now") (v := y) e (by show 3 < sizeLine; exact hl), S.mut b (.dK (odKV y q1 q2)) h.gb, ?_, l, ⟨h.gb, ⟨y, upd_same, o⟩, h.o1.lm l (by simp [Ne.symm nd.1.1]), h.o2.lm l (by simp [Ne.symm nd.1.2]), h.nd⟩⟩
  rw [put_now]
  rfl
/-- own["now"] = e -/
theorem st_odnow (he : EvD K tv σ S (eOwn now')) (hd : Ev K td σ S (.v (.ref b))) (hk : EvD K ty σ S (.str "now")) (h : Od K S b q1 q2 now past gone) (k : ∀ T, Lm [b] S T → Od K T b q1 q2 now' past gone → X.nx σ T.H) : sDPut td ty tv X σ S.H :=
  he S (Le.refl S) _ fun y U lU oU => hd U lU _ fun x W lW o => hk W (lU.trans lW) _ fun z Y lV oz => by
    cases (show some x = some (V.ref b) from o)
    have ez := Da.str_eq oz
    subst ez
    have lSV := (lU.trans lW).trans lV
    have hV := h.up lSV
    obtain ⟨H4, h1, T, rfl, l, h2⟩ := hV.put (Da.up (lW.trans lV).g oU)
    obtain ⟨v, e, _⟩ := hV.hb
    exact ⟨b, T.H, rfl, h1, k T (lSV.tM l fun x hx => by simp at hx; subst hx; exact ⟨_, e⟩) h2⟩
/-- own["gone"] = [] -/
theorem st_odgone (hd : Ev K td σ S (.v (.ref b))) (hk : EvD K ty σ S (.str "gone")) (h : Od K S b q1 q2 now past gone) (k : ∀ q T, Lm [b] S T → Nw S q → Od K T b q1 q now past [] → X.nx σ T.H) : sDPut td ty (tLst tNil) X σ S.H := by
  unfold sDPut
  refine te_new0 (K := K) fun p U lU np op => ?_
  refine hd U lU _ fun x W lW o => hk W (lU.trans lW) _ fun z Y lV oz => ?_
  cases (show some x = some (V.ref b) from o)
  have ez := Da.str_eq oz
  subst ez
  have lSV := (lU.trans lW).trans lV
  have hV := h.up lSV
  obtain ⟨v, e, d⟩ := hV.hb
  obtain ⟨v0, e0, d0⟩ := h.hb
  have nd := h.nd
  simp only [List.nodup_cons, List.mem_cons, List.not_mem_nil, or_false, not_or] at nd
  have nb : b ≠ p := np b _ e0
  have n1 : q1 ≠ p := by obtain ⟨o, ho⟩ := h.o1.has; exact np q1 o ho
  have l : Lm [b] Y (Y.mut b (.dK (odKV v q1 p)) hV.gb) := lm_mut hV.gb
  refine ⟨b, (Y.mut b (.dK (odKV v q1 p)) hV.gb).H, rfl, ?_, k p (Y.mut b (.dK (odKV v q1 p)) hV.gb) (lSV.tM l fun x hx => by simp at hx; subst hx; exact ⟨_, e⟩) np ⟨hV.gb, ⟨v, upd_same, d⟩, hV.o1.lm l (by simp [Ne.symm nd.1.1]), (op.up (lW.trans lV)).lm l (by simp [Ne.symm nb]), ?_⟩⟩
  · have z := DPut.k (k := .inr "gone") (v := .ref p) e (by show 3 < sizeLine; decide)
    rw [put_gone] at z
    exact z
  · simp [nd.1.1, nb, n1]
/-- own["now"] = own[..].pop() -/
theorem st_odpop1 (hd : ∀ T, Same S.G T.G → Ev K td σ T (.v (.ref b))) (hk : ∀ T, Same S.G T.G → EvD K ty σ T (.str "now")) (hp : Ev K tb σ S (.v (.ref q1))) (h : Od K S b q1 q2 now (us ++ [s]) gone) (k : ∀ T, Lm [q1, b] S T → Od K T b q1 q2 s us gone → X.nx σ T.H) : sDPut td ty (tBM0 K "list" rPop tb) X σ S.H := by
  unfold sDPut
  refine te_pop (ds := us.map eOwn) (d := eOwn s) hp (by have z := h.o1; rw [List.map_append] at z; exact z) fun y U lU oU dU => ?_
  have hU := h.setPast lU oU
  refine hd U lU.g U (Le.refl U) _ fun x W lW o => hk W (lU.g.trans lW.g) W (Le.refl W) _ fun z Y lV oz => ?_
  cases (show some x = some (V.ref b) from o)
  have ez := Da.str_eq oz
  subst ez
  have hV := hU.up (lW.trans lV)
  obtain ⟨H4, h1, T, rfl, l, h2⟩ := hV.put (Da.up (lW.trans lV).g dU)
  obtain ⟨v, e, _⟩ := hV.hb
  obtain ⟨v', e', _⟩ := hU.hb
  refine ⟨b, T.H, rfl, h1, k T (lU.transM ((lW.trans lV).tM l fun x hx => by simp at hx; subst hx; exact ⟨_, e⟩) (fun x hx => by simp at hx; subst hx; exact ⟨_, e'⟩) (fun x hx => by simp at hx; subst hx; exact hU.o1.has)) h2⟩
theorem st_odpop2 (hd : ∀ T, Same S.G T.G → Ev K td σ T (.v (.ref b))) (hk : ∀ T, Same S.G T.G → EvD K ty σ T (.str "now")) (hp : Ev K tb σ S (.v (.ref q2))) (h : Od K S b q1 q2 now past (us ++ [s])) (k : ∀ T, Lm [q2, b] S T → Od K T b q1 q2 s past us → X.nx σ T.H) : sDPut td ty (tBM0 K "list" rPop tb) X σ S.H := by
  unfold sDPut
  refine te_pop (ds := us.map eOwn) (d := eOwn s) hp (by have z := h.o2; rw [List.map_append] at z; exact z) fun y U lU oU dU => ?_
  have hU := h.setGone lU oU
  refine hd U lU.g U (Le.refl U) _ fun x W lW o => hk W (lU.g.trans lW.g) W (Le.refl W) _ fun z Y lV oz => ?_
  cases (show some x = some (V.ref b) from o)
  have ez := Da.str_eq oz
  subst ez
  have hV := hU.up (lW.trans lV)
  obtain ⟨H4, h1, T, rfl, l, h2⟩ := hV.put (Da.up (lW.trans lV).g dU)
  obtain ⟨v, e, _⟩ := hV.hb
  obtain ⟨v', e', _⟩ := hU.hb
  refine ⟨b, T.H, rfl, h1, k T (lU.transM ((lW.trans lV).tM l fun x hx => by simp at hx; subst hx; exact ⟨_, e⟩) (fun x hx => by simp at hx; subst hx; exact ⟨_, e'⟩) (fun x hx => by simp at hx; subst hx; exact hU.o2.has)) h2⟩
end
/-! ### comparing a list of one's own -/
theorem ev_eqO {K : PySem.W.Frag} {σ : L2.St} {S : Sit} {ta tb : TE} {p : Addr} {ds : List PyData} {e : PyData} (ha : Ev K ta σ S (.v (.ref p))) (h : Ow K S p ds) (hb : EvD K tb σ S e) (h1 : SeqAt.shaped (.list ds) = true) (h2 : SeqAt.shaped e = true) : EvD K (tOp (rEqD K) ta tb) σ S (.bool (PyData.eqv (.list ds) e)) :=
  ev_two ha hb fun T x y l hx hy Q q => by
    cases (show some x = some (V.ref p) from hx)
    obtain ⟨xs, e1, e2⟩ := (h.up l).seq
    exact ⟨.list ds, e, Dp.lst e1 (DaAll.dp (DaAll.up T.sub e2)), (Da.up T.sub hy).dp, h1, h2, q _ T (Le.refl T) (Da.bl _)⟩
theorem shp_own (s : Sta) : Shp 3 (eOwn s) := shp_tup fun d hd => by
  simp at hd
  rcases hd with e | e | e
  · subst e; exact (shp_M s.wk).up (by decide)
  · subst e; exact shp_map shp_M s.fl
  · subst e; exact (shp_int _).up (by decide)
/-! ### no truth -/
def noB : PyData → Bool
  | .bool _ => false
  | .dict _ => false
  | _ => true
theorem ev_isB {K : PySem.W.Frag} {σ : L2.St} {S : Sit} {ta : TE} {d : PyData} (ha : EvD K ta σ S d) (hd : noB d = true) : EvD K (tCB (rIsi K) (tCons ta (tCons (tC (.ty "bool")) tNil))) σ S (.bool false) := fun T l Q q => ha T l _ fun v U lU o => by
  refine ⟨v, .ty "bool", ?_⟩
  cases o with
  | non => exact ⟨.type "NoneType", .type "bool", false, rfl, .ty _, .base .non, rfl, q _ U lU (Da.bl _)⟩
  | bl b => cases hd
  | int i => exact ⟨.type "int", .type "bool", false, rfl, .ty _, .base (.int i), rfl, q _ U lU (Da.bl _)⟩
  | str x => exact ⟨.type "str", .type "bool", false, rfl, .ty _, .base (.str x), rfl, q _ U lU (Da.bl _)⟩
  | lst s a => exact ⟨.type "list", .type "bool", false, rfl, .ty _, .base (.lst (U.sub _ _ s)), rfl, q _ U lU (Da.bl _)⟩
  | tup s a => exact ⟨.type "tuple", .type "bool", false, rfl, .ty _, .base (.tup (U.sub _ _ s)), rfl, q _ U lU (Da.bl _)⟩
theorem ev_isBt {K : PySem.W.Frag} {σ : L2.St} {S : Sit} {ta : TE} {b : Bool} (ha : EvD K ta σ S (.bool b)) : EvD K (tCB (rIsi K) (tCons ta (tCons (tC (.ty "bool")) tNil))) σ S (.bool true) := fun T l Q q => ha T l _ fun v U lU o => by
  cases o with
  | bl b => exact ⟨_, .ty "bool", .type "bool", .type "bool", true, rfl, .ty _, .base (.bl b), rfl, q _ U lU (Da.bl _)⟩
theorem ev_isBl {K : PySem.W.Frag} {σ : L2.St} {S : Sit} {ta tb : TE} {a b : Bool} (ha : EvD K ta σ S (.bool a)) (hb : EvD K tb σ S (.bool b)) : EvD K (tOp (fun x y H Q => ∃ a b, x = V.bl a ∧ y = .bl b ∧ Q (.bl (decide (a = b))) H) ta tb) σ S (.bool (decide (a = b))) :=
  ev_two ha hb fun T x y _ hx hy Q q => by
    have ex := Da.bl_eq hx; have ey := Da.bl_eq hy
    subst ex ey
    exact ⟨a, b, rfl, rfl, q _ T (Le.refl T) (Da.bl _)⟩
theorem ev_nisBl {K : PySem.W.Frag} {σ : L2.St} {S : Sit} {ta tb : TE} {a b : Bool} (ha : EvD K ta σ S (.bool a)) (hb : EvD K tb σ S (.bool b)) : EvD K (tOp (fun x y H Q => ∃ a b, x = V.bl a ∧ y = .bl b ∧ Q (.bl (!decide (a = b))) H) ta tb) σ S (.bool (!decide (a = b))) :=
  ev_two ha hb fun T x y _ hx hy Q q => by
    have ex := Da.bl_eq hx; have ey := Da.bl_eq hy
    subst ex ey
    exact ⟨a, b, rfl, rfl, q _ T (Le.refl T) (Da.bl _)⟩
/-! ### a desk's questions within expressions -/
section
variable {K : PySem.W.Frag} {σ : L2.St} {S : Sit} {ta : TE} {E : XK} {a dx p1 p2 : Addr} {r : Str} {now : Sta} {past gone : List Sta}
theorem ev_mwalker (ha : Ev K ta σ S (.v (.ref a))) (h : Dk K (cD K) S a dx p1 p2 r now past gone) : EvD K (tMeth (cD K) "walker" (sp_walker K) [] E ta tNil) σ S (eW3 now.wk) := fun T l Q q =>
  te_mt (ha.up l) (h.up l) ea_nil fun vs U lU hv => ⟨U, a, dx, p1, p2, r, now, past, gone, rfl, .cons rfl hv, h.up (l.trans lU), fun v W lW o => q v W (lU.trans lW) o⟩
theorem ev_msteps (ha : Ev K ta σ S (.v (.ref a))) (h : Dk K (cD K) S a dx p1 p2 r now past gone) : EvD K (tMeth (cD K) "steps" (sp_steps K) [] E ta tNil) σ S (.int now.st) := fun T l Q q =>
  te_mt (ha.up l) (h.up l) ea_nil fun vs U lU hv => ⟨U, a, dx, p1, p2, r, now, past, gone, rfl, .cons rfl hv, h.up (l.trans lU), fun v W lW o => q v W (lU.trans lW) o⟩
theorem evf_mfloor (ha : Ev K ta σ S (.v (.ref a))) (h : Dk K (cD K) S a dx p1 p2 r now past gone) : EvF K (tMeth (cD K) "floor" (sp_floor K) [] E ta tNil) σ S (now.fl.map eM) := fun T l Q q =>
  te_mt (ha.up l) (h.up l) ea_nil fun vs U lU hv => ⟨U, a, dx, p1, p2, r, now, past, gone, rfl, .cons rfl hv, h.up (l.trans lU), fun p W lW n o => q p W (lU.trans lW) (n.back lU) o⟩
theorem ev_face (ha : Ev K ta σ S (.v (.ref a))) (h : Dk K (cD K) S a dx p1 p2 r now past gone) : EvA K (tCons (tMeth (cD K) "walker" (sp_walker K) [] E ta tNil) (tCons (tMeth (cD K) "floor" (sp_floor K) [] E ta tNil) (tCons (tMeth (cD K) "steps" (sp_steps K) [] E ta tNil) tNil))) σ S ([eW3 now.wk, eF now.fl, .int now.st].map Sl.d) :=
  ea_ds (ev_mwalker ha h) (ea_ds (evf_ev (evf_mfloor ha h)) (ea_ds (ev_msteps ha h) ea_d0))
end
/-! ### promises of the law's own defs -/
def sp__law_shows (K : PySem.W.Frag) : Sp := fun vs H Q _ => ∃ (S : Sit) (b q1 q2 a dx p1 p2 : Addr) (r : Str) (now : Sta) (past gone past' gone' : List Sta), S.H = H ∧ Vs K S.G vs [.v (.ref b), .v (.ref a)] ∧ Od K S b q1 q2 now past gone ∧ Dk K (cD K) S a dx p1 p2 r now past' gone' ∧ ∀ T, Le S T → Q (.bl true) T.H
def sp_turn1 (K : PySem.W.Frag) : Sp := fun vs H Q _ => ∃ (S : Sit) (b q1 q2 : Addr) (now : Sta) (past gone : List Sta), S.H = H ∧ Vs K S.G vs [.v (.ref b), .d (.str "past"), .d (.str "gone")] ∧ Od K S b q1 q2 now past gone ∧ gone.length < 800000 ∧ (past = [] → ∀ T, Le S T → Q (.bl false) T.H) ∧ ∀ us s, past = us ++ [s] → ∀ T, Lm [b, q1, q2] S T → Od K T b q1 q2 s us (gone ++ [now]) → Q (.bl true) T.H
def sp_turn2 (K : PySem.W.Frag) : Sp := fun vs H Q _ => ∃ (S : Sit) (b q1 q2 : Addr) (now : Sta) (past gone : List Sta), S.H = H ∧ Vs K S.G vs [.v (.ref b), .d (.str "gone"), .d (.str "past")] ∧ Od K S b q1 q2 now past gone ∧ past.length < 800000 ∧ (gone = [] → ∀ T, Le S T → Q (.bl false) T.H) ∧ ∀ us s, gone = us ++ [s] → ∀ T, Lm [b, q1, q2] S T → Od K T b q1 q2 s (past ++ [now]) us → Q (.bl true) T.H
def sp__law_turn (K : PySem.W.Frag) : Sp := fun vs H Q E => sp_turn1 K vs H Q E ∨ sp_turn2 K vs H Q E
/-! ### an if whose ends meet -/
theorem st_ifK {K : PySem.W.Frag} {σ : L2.St} {S : Sit} {tt : TT} {t1 t2 : TS} {D : Ends} {c : Bool} (J : L2.St → Sit → Prop) (hb : EvB K tt σ S c) (hk : ∀ σ' T, J σ' T → D.nx σ' T.H) (h1 : c = true → ∀ T, Le S T → (∀ σ' T', J σ' T' → D.nx σ' T'.H) → t1 D σ T.H) (h2 : c = false → ∀ T, Le S T → (∀ σ' T', J σ' T' → D.nx σ' T'.H) → t2 D σ T.H) : tIfS tt t1 t2 D σ S.H :=
  hb S (Le.refl S) _ fun U l => by
    cases c with
    | true => exact iteT (h1 rfl U l hk)
    | false => exact iteF (h2 rfl U l hk)
/-! ### the table of turns undone -/
def turnKB : List (L2.Key × V) := [(.inr "L", .int 1), (.inr "R", .int 3), (.inr "N", .int 0), (.inr "U", .int 2)]
def turnB' (c : Nat) : Int := if c = 82 then 3 else if c = 85 then 2 else if c = 76 then 1 else 0
theorem turnKB_at {c : Nat} (h : c = 76 ∨ c = 78 ∨ c = 82 ∨ c = 85) : valV (mergeK [] turnKB) (.inr ⟨#[c]⟩) = some (.int (turnB' c)) := by
  rcases h with rfl | rfl | rfl | rfl <;> decide +kernel
theorem turnB_mod {c : Nat} (h : c = 76 ∨ c = 78 ∨ c = 82 ∨ c = 85) (x : Int) : (x + turnB' c) % 4 = (x - turnOf c) % 4 := by
  rcases h with rfl | rfl | rfl | rfl <;> (unfold turnB' turnOf; simp) <;> omega
theorem ev_dispB {K : PySem.W.Frag} {σ : L2.St} {S : Sit} {tb : TE} {c : Nat} (hb : EvD K tb σ S (.str ⟨#[c]⟩)) (hc : c = 76 ∨ c = 78 ∨ c = 82 ∨ c = 85) :
    EvD K (tDGet (tDisp [(tC (.str "L"), tC (.int 1)), (tC (.str "R"), tC (.int 3)), (tC (.str "N"), tC (.int 0)), (tC (.str "U"), tC (.int 2))]) tb) σ S (.int (turnB' c)) := fun T l Q q p hp => by
  refine ⟨upd_same, turnKB, rfl, by decide, ?_⟩
  rw [upd_upd]
  refine hb (T.pushM p (.dK (mergeK [] turnKB)) hp) (l.trans (T.pushM_le hp)) _ fun y U lU o => ?_
  have e := Da.str_eq o
  subst e
  refine ⟨p, _, rfl, ?_, q (.int (turnB' c)) U ((T.pushM_le hp).trans lU) (Da.int _)⟩
  have z := DGet.k (k := .inr ⟨#[c]⟩) (lU.2.1 p _ upd_same)
  rw [turnKB_at hc] at z
  exact z
end MW

set_option Elab.async false
set_option linter.all false
set_option maxRecDepth 100000
set_option maxHeartbeats 4000000
namespace MW
open PySem PySem.Spec PyProof.Rows L2
set_option autoImplicit false
/-! ### deeds within expressions -/
def EvDd (K : PySem.W.Frag) (te : TE) (σ : L2.St) (S : Sit) (a dx p1 : Addr) (r : Str) (s : Sta) (ps : List Sta) (d : PyData) : Prop := ∀ T, Le S T → ∀ Q : VK, (∀ v p U, Lm [a, p1] T U → Nw T p → Dk K (cD K) U a dx p1 p r s ps [] → Da K U.G v d → Q v U.H) → te σ T.H Q
theorem Dk.has2 {K : PySem.W.Frag} {C : Addr} {S : Sit} {a dx p1 p2 : Addr} {r : Str} {now : Sta} {past gone : List Sta} (h : Dk K C S a dx p1 p2 r now past gone) : ∀ x ∈ [a, p1], ∃ o, S.H x = some o := fun x hx => by
  simp at hx
  rcases hx with rfl | rfl
  · obtain ⟨v, e, _⟩ := h.ha
    exact ⟨_, e⟩
  · exact h.o1.has
theorem Dk.has3 {K : PySem.W.Frag} {C : Addr} {S : Sit} {a dx p1 p2 : Addr} {r : Str} {now : Sta} {past gone : List Sta} (h : Dk K C S a dx p1 p2 r now past gone) : ∀ x ∈ [a, p1, p2], ∃ o, S.H x = some o := fun x hx => by
  simp at hx
  rcases hx with rfl | rfl | rfl
  · obtain ⟨v, e, _⟩ := h.ha
    exact ⟨_, e⟩
  · exact h.o1.has
  · exact h.o2.has
section
variable {K : PySem.W.Frag} {σ : L2.St} {S : Sit} {δ : List Sl} {ta tb te tv : TE} {tr : TA} {E : XK} {X : Ends} {a dx p1 p2 : Addr} {r : Str} {now s : Sta} {past gone ps : List Sta} {d e f : PyData}
theorem evd_on {m : Nat} (ha : Ev K ta σ S (.v (.ref a))) (h : Dk K (cD K) S a dx p1 p2 r now past gone) (ok : Dok r now) (hp : past.length < 800000) (hr : EvA K tr σ S [.d (.int (m : Nat))]) (hm : m ≤ 500) : EvDd K (tMeth (cD K) "on" (sp_on K) [] E ta tr) σ S a dx p1 r (onS r now m) (past ++ [now]) (.str (onT r now m)) := fun T l Q q =>
  te_mt (ha.up l) (h.up l) (fun U lU => hr U (l.trans lU)) fun vs U lU hv => ⟨(m : Nat), U, a, dx, p1, p2, r, now, past, gone, rfl, .cons rfl hv, h.up (l.trans lU), ok, hp, (fun z => by unfold mOk at z; simp at z; omega), fun m' e _ p W lW np dk => by
    have e : m = m' := by omega
    subst e
    exact q _ p W (lU.tM lW (h.up (l.trans lU)).has2) (np.back lU) dk (Da.str _)⟩
theorem evd_ret {m : Nat} (ha : Ev K ta σ S (.v (.ref a))) (h : Dk K (cD K) S a dx p1 p2 r now past gone) (ok : Dok r now) (hp : past.length < 800000) (hr : EvA K tr σ S [.d (.int (m : Nat))]) (hm : m ≤ 500) : EvDd K (tMeth (cD K) "return_by" (sp_return_by K) [] E ta tr) σ S a dx p1 r (bkS r now m) (past ++ [now]) .none := fun T l Q q =>
  te_mt (ha.up l) (h.up l) (fun U lU => hr U (l.trans lU)) fun vs U lU hv => ⟨(m : Nat), U, a, dx, p1, p2, r, now, past, gone, rfl, .cons rfl hv, h.up (l.trans lU), ok, hp, (fun z => by unfold mOk at z; simp at z; omega), fun m' e _ p W lW np dk => by
    have e : m = m' := by omega
    subst e
    exact q _ p W (lU.tM lW (h.up (l.trans lU)).has2) (np.back lU) dk Da.non⟩
theorem evd_mark {x y c : Int} (ha : Ev K ta σ S (.v (.ref a))) (h : Dk K (cD K) S a dx p1 p2 r now past gone) (ok : Dok r now) (hp : past.length < 800000) (hr : EvA K tr σ S [.d (.int x), .d (.int y), .d (.int c)]) (hm : mkBad r x y c = false) : EvDd K (tMeth (cD K) "mark" (sp_mark K) [] E ta tr) σ S a dx p1 r (mkS now x y c) (past ++ [now]) (.int (at0 (marksD now.fl) (x, y))) := fun T l Q q =>
  te_mt (ha.up l) (h.up l) (fun U lU => hr U (l.trans lU)) fun vs U lU hv => ⟨x, y, c, U, a, dx, p1, p2, r, now, past, gone, rfl, .cons rfl hv, h.up (l.trans lU), ok, hp, (fun z => by rw [hm] at z; cases z), fun _ p W lW np dk => q _ p W (lU.tM lW (h.up (l.trans lU)).has2) (np.back lU) dk (Da.int _)⟩
theorem evd_put {wk : Wk} (ha : Ev K ta σ S (.v (.ref a))) (h : Dk K (cD K) S a dx p1 p2 r now past gone) (ok : Dok r now) (hp : past.length < 800000) (hr : EvA K tr σ S [.d (eW3 wk)]) (hm : wOk (w3 wk) = true) : EvDd K (tMeth (cD K) "put" (sp_put K) [] E ta tr) σ S a dx p1 r (ptS now wk) (past ++ [now]) (eW3 now.wk) := fun T l Q q =>
  te_mt (ha.up l) (h.up l) (fun U lU => hr U (l.trans lU)) fun vs U lU hv => ⟨w3 wk, U, a, dx, p1, p2, r, now, past, gone, rfl, .cons rfl hv, h.up (l.trans lU), ok, hp, (by show 3 ≤ 1000; decide), (fun z => by rw [hm] at z; cases z), fun wk' _ e p W lW np dk v o => by
    cases w3_inj e
    exact q v p W (lU.tM lW (h.up (l.trans lU)).has2) (np.back lU) dk o⟩
/-- i, j = (deed, e) -/
theorem st_parD {i j : Nat} (hE : Sv K S.G σ δ) (h1 : EvDd K te σ S a dx p1 r s ps d) (h2 : ∀ T, Same S.G T.G → EvD K tb σ T e) (k : ∀ p σ' T, Lm [a, p1] S T → Nw S p → Dk K (cD K) T a dx p1 p r s ps [] → Sv K T.G σ' ((δ.set i (.d d)).set j (.d e)) → X.nx σ' T.H) : tPar i j (tCons te (tCons tb tNil)) X σ S.H :=
  h1 S (Le.refl S) _ fun v p U l np dk o => h2 U l.g U (Le.refl U) _ fun w W lW o2 => ⟨v, w, rfl, k p _ W (l.tL lW dk.has2) np (dk.up lW) (Sv.set (slOk_d o2) j (Sv.set (slOk_d (Da.up lW.g o)) i (hE.up (l.g.trans lW.g))))⟩
/-- i, j = (e, deed) -/
theorem st_parE {i j : Nat} (hE : Sv K S.G σ δ) (h1 : EvD K tb σ S e) (h2 : EvDd K te σ S a dx p1 r s ps d) (ex : ∀ x ∈ [a, p1], ∃ o, S.H x = some o) (k : ∀ p σ' T, Lm [a, p1] S T → Nw S p → Dk K (cD K) T a dx p1 p r s ps [] → Sv K T.G σ' ((δ.set i (.d e)).set j (.d d)) → X.nx σ' T.H) : tPar i j (tCons tb (tCons te tNil)) X σ S.H :=
  h1 S (Le.refl S) _ fun v U l o => h2 U l _ fun w p W lW np dk o2 => ⟨v, w, rfl, k p _ W (l.tM lW fun x hx => let ⟨q, hq⟩ := ex x hx; ⟨q, l.2.1 _ _ hq⟩) (np.back l) dk (Sv.set (slOk_d o2) j (Sv.set (slOk_d (Da.up lW.g o)) i (hE.up (l.g.trans lW.g))))⟩
/-- i, j, k = (e, deed, f) -/
theorem st_asgD3 {i j m : Nat} (hE : Sv K S.G σ δ) (h1 : EvD K tb σ S e) (h2 : EvDd K te σ S a dx p1 r s ps d) (h3 : ∀ T, Same S.G T.G → EvD K tv σ T f) (ex : ∀ x ∈ [a, p1], ∃ o, S.H x = some o) (k : ∀ p σ' T, Lm [a, p1] S T → Nw S p → Dk K (cD K) T a dx p1 p r s ps [] → Sv K T.G σ' (((δ.set i (.d e)).set j (.d d)).set m (.d f)) → X.nx σ' T.H) : tAsg (tTup (tCons tb (tCons te (tCons tv tNil)))) (gTup K 3 (gCons (gName i) (gCons (gName j) (gCons (gName m) gNil)))) X σ S.H :=
  h1 S (Le.refl S) _ fun v U l o => h2 U l _ fun w p W lW np dk o2 => h3 W (l.g.trans lW.g) W (Le.refl W) _ fun u Y lY o3 => ⟨sz (by show 3 ≤ _; decide), fun tp htp => by
    have lP := Y.push_le htp (o := .tup [v, w, u])
    have lS : Lm [a, p1] S (Y.push tp (.tup [v, w, u]) htp) := (l.tM lW fun x hx => let ⟨q, hq⟩ := ex x hx; ⟨q, l.2.1 _ _ hq⟩).tL (lY.trans lP) dk.has2
    refine ⟨tp, [v, w, u], rfl, SqT.of upd_same, rfl, v, [w, u], rfl, w, [u], rfl, u, [], rfl, rfl, ?_⟩
    refine k p _ (Y.push tp (.tup [v, w, u]) htp) lS (np.back l) (dk.up (lY.trans lP)) ?_
    exact Sv.set (slOk_d (Da.up lP.g o3)) m (Sv.set (slOk_d (Da.up (lY.trans lP).g o2)) j (Sv.set (slOk_d (Da.up ((lW.g.trans lY.g).trans lP.g) o)) i (hE.up lS.g)))⟩
/-- a deed as a statement -/
theorem st_dropD (h1 : EvDd K te σ S a dx p1 r s ps d) (k : ∀ p T, Lm [a, p1] S T → Nw S p → Dk K (cD K) T a dx p1 p r s ps [] → X.nx σ T.H) : tDrop te X σ S.H :=
  h1 S (Le.refl S) _ fun v p U l np dk o => k p U l np dk
end
/-! ### undone, done again -/
section
variable {K : PySem.W.Frag} {σ : L2.St} {S : Sit} {ta : TE} {E : XK} {a dx p1 p2 : Addr} {r : Str} {now s : Sta} {past gone us : List Sta} {Q : VK}
theorem te_undo (ha : Ev K ta σ S (.v (.ref a))) (h : Dk K (cD K) S a dx p1 p2 r now past gone) (hl : gone.length < 800000) (k0 : past = [] → ∀ T, Le S T → Q (.bl false) T.H) (k1 : ∀ us s, past = us ++ [s] → ∀ T, Lm [a, p1, p2] S T → Dk K (cD K) T a dx p1 p2 r s us (gone ++ [now]) → Q (.bl true) T.H) : tMeth (cD K) "undo" (sp_undo K) [] E ta tNil σ S.H Q :=
  te_mt ha h ea_nil fun vs U lU hv => ⟨U, a, dx, p1, p2, r, now, past, gone, rfl, .cons rfl hv, h.up lU, hl, fun e T l => k0 e T (lU.trans l), fun us s e T l dk => k1 us s e T (lU.tM l (h.up lU).has3) dk⟩
theorem te_redo (ha : Ev K ta σ S (.v (.ref a))) (h : Dk K (cD K) S a dx p1 p2 r now past gone) (hl : past.length < 800000) (k0 : gone = [] → ∀ T, Le S T → Q (.bl false) T.H) (k1 : ∀ us s, gone = us ++ [s] → ∀ T, Lm [a, p1, p2] S T → Dk K (cD K) T a dx p1 p2 r s (past ++ [now]) us → Q (.bl true) T.H) : tMeth (cD K) "redo" (sp_redo K) [] E ta tNil σ S.H Q :=
  te_mt ha h ea_nil fun vs U lU hv => ⟨U, a, dx, p1, p2, r, now, past, gone, rfl, .cons rfl hv, h.up lU, hl, fun e T l => k0 e T (lU.trans l), fun us s e T l dk => k1 us s e T (lU.tM l (h.up lU).has3) dk⟩
end
/-! ### what deeds leave is well -/
theorem okc_dput {r : Str} {D : Dd Int} {n : Nat} (h : Okc r D n) (p : Pl) {c : Int} (hc : 0 ≤ c ∧ c < (r.length : Int)) : Okc r (dput D p c) (n + 1) := ⟨dput_all h.cl hc, h.nk.put _ _, by have := dput_len D p c; have := h.le; omega⟩
theorem dok_of {r : Str} {D : Dd Int} {n : Nat} {wk : Wk} {st : Int} (ro : ruleOk r = true) (h : Okc r D n) (hn : n ≤ 100000) (hd : 0 ≤ wk.2.2 ∧ wk.2.2 < 4) : Dok r ⟨wk, toldL D, st⟩ := ⟨ro, fun m hm => by
    have z := (told_cols h).1 m hm
    omega, Nat.le_trans (told_cols h).2 hn, hd⟩
/-! ### targets that are lists -/
theorem kpg_lst {X : Cx} {K : PySem.W.Frag} {es : List Expr} {k n : Nat} {t : TGs} {pos : Pos} (hc : X.calm = true) (he : PGs X es t) (h : X.K = K := by rfl)
    (hn : (assignEach es X.env).length = n := by rfl) (hst : (assignEach es X.env).findIdx? (·.1) = none := by rfl) : PG X (.Tuple es k pos) (gLst K n t) := h ▸ pg_lst hc he hn hst
theorem tg_lst2 {K : PySem.W.Frag} {i j : Nat} {a b : PyData} : Tg K (gLst K 2 (gCons (gName i) (gCons (gName j) gNil))) (.list [a, b]) [(i, a), (j, b)] := fun v σ T Q h q => by
  obtain ⟨p, xs, rfl, h1, h2⟩ := Da.lst_eq h
  cases h2 with
  | cons e1 h2 =>
    cases h2 with
    | cons e2 h2 =>
      cases h2
      refine ⟨p, _, rfl, SqL.of (T.sub _ _ h1), rfl, _, _, rfl, _, _, rfl, rfl, ?_⟩
      refine q _ (fun δ hE => Sv.set (slOk_d e2) j (Sv.set (slOk_d e1) i hE)) fun vs hv => ?_
      rw [wipe_set (hv (j, b) (by simp)), wipe_set (hv (i, a) (by simp))]
/-! ### colours by places, of large floors too -/
def sp_marksB (K : PySem.W.Frag) : Sp := fun vs H Q _ => ∃ (S : Sit) (fl : List Mk), S.H = H ∧ Vs K S.G vs [.d (eF fl)] ∧ fl.length ≤ 500000 ∧ ∀ p T, Le S T → Nw S p → Dc T p (marksD fl) → Q (.ref p) T.H
theorem evc_marksB {K : PySem.W.Frag} {σ : L2.St} {S : Sit} {E : XK} {tr : TA} {fl : List Mk} (ha : EvA K tr σ S [.d (eF fl)]) (hl : fl.length ≤ 500000) : EvC K (tCall (sp_marksB K) [] E tr) σ S (marksD fl) := fun T l Q q => ha T l _ fun vs U lU hv => by
  rw [List.append_nil]
  exact ⟨U, fl, rfl, hv, hl, fun p W lW np d => q p W (lU.trans lW) (np.back lU) d⟩
/-! ### the deed's promise -/
structure Bo (K : PySem.W.Frag) (T : Sit) (t b q1 q2 a dx p1 p2 : Addr) (r : Str) (now : Sta) (past gone : List Sta) : Prop where
  od : Od K T b q1 q2 now past gone
  dk : Dk K (cD K) T a dx p1 p2 r now past gone
  ap : [t, b, q1, q2, a, dx, p1, p2].Nodup
theorem Bo.lm {K : PySem.W.Frag} {S T : Sit} {t b q1 q2 a dx p1 p2 : Addr} {r : Str} {now : Sta} {past gone : List Sta} (h : Bo K S t b q1 q2 a dx p1 p2 r now past gone) (l : Lm [t] S T) : Bo K T t b q1 q2 a dx p1 p2 r now past gone := by
  have ap := h.ap
  simp only [List.nodup_cons, List.mem_cons, List.not_mem_nil, or_false, not_or] at ap
  obtain ⟨⟨n1, n2, n3, n4, n5, n6, n7⟩, _⟩ := ap
  exact ⟨h.od.lm l (by simp [Ne.symm n1, Ne.symm n2, Ne.symm n3]), h.dk.lm l (by simp [Ne.symm n4, Ne.symm n5, Ne.symm n6, Ne.symm n7]), h.ap⟩
def sp__law_deed (K : PySem.W.Frag) : Sp := fun vs H Q _ => ∃ (S : Sit) (sa t : Addr) (ns : List Int) (bud : Nat) (b q1 q2 a dx p1 p2 : Addr) (r : Str) (now : Sta) (past gone : List Sta), S.H = H ∧ Vs K S.G vs [.v (.ref sa), .v (.ref t), .d (.str r), .v (.ref b), .v (.ref a)] ∧ SqL K S.G sa (ns.map V.int) ∧ Town S t (bud + 20) ∧ Bo K S t b q1 q2 a dx p1 p2 r now past gone ∧ Dok r now ∧ now.fl.length ≤ 90000 ∧ past.length < 800000 ∧
  ∀ s q2' p2' T, Lm [t, b, q1, a, p1] S T → Town T t bud → Bo K T t b q1 q2' a dx p1 p2' r s (past ++ [now]) [] → Dok r s → s.fl.length ≤ now.fl.length + 501 → Q (.bl true) T.H
end MW
namespace MW
open PySem PySem.Spec PyProof.Rows L2
set_option autoImplicit false
theorem Lm.new {M : List Addr} {S T U : Sit} {p : Addr} (a : Lm M S T) (b : Lm [p] T U) (hp : S.H p = none) (hM : ∀ x ∈ M, ∃ o, T.H x = some o) : Lm M S U := ⟨a.1.trans b.1, fun x o nx hx => b.2.1 x o (by
    simp
    rintro rfl
    rw [hp] at hx
    cases hx) (a.2.1 x o nx hx), fun x o hx => by
    by_cases c : x ∈ M
    · obtain ⟨o', h'⟩ := hM x c
      exact (b.2.2 x o' h').trans (a.2.2 x o hx)
    · exact (b.2.2 x o (a.2.1 x o c hx)).trans (a.2.2 x o hx)⟩
theorem Town.lms {S T : Sit} {t : Addr} {b : Nat} {M : List Addr} (h : Town S t b) (l : Lm M S T) (ht : t ∉ M) : Town T t b := by
  obtain ⟨g, n, hn, e⟩ := h
  exact ⟨(l.2.2 t _ e).trans g, n, hn, l.2.1 t _ ht e⟩
theorem Lm.sub {M N : List Addr} {S T : Sit} (a : Lm M S T) (h : ∀ x ∈ M, x ∈ N) : Lm N S T := ⟨a.1, fun x o nx hx => a.2.1 x o (fun z => nx (h x z)) hx, a.2.2⟩
theorem en_clamp {K : PySem.W.Frag} {t a : Addr} {σ : L2.St} {S : Sit} {δ : List Sl} {E : XK} {b : Nat} {ns : List Int} {wk : Wk} {k : Int} (hE : Sv K S.G σ δ) (e0 : δ[0]? = some (.v (.ref a))) (e1 : δ[1]? = some (.v (.ref t))) (e5 : δ[5]? = some (.d (eW3 wk))) (ek : δ[13]? = some (.d (.int k))) (hk : k = 0 ∨ k = 1) (hs : SqL K S.G a (ns.map V.int)) {f1 f2 f3 : Int → Int → Int} (h3 : f3 0 100 = 0 - 100) :
    EvN K t (tCB (fun xs H Q => ∃ i j, xs = [.int i, .int j] ∧ Q (.int (if j > i then j else i)) H) (tCons (tOp (rI0 fun i j => .int (f3 i j)) (tC (.int 0)) (tC (.int 100))) (tCons (tCB (fun xs H Q => ∃ i j, xs = [.int i, .int j] ∧ Q (.int (if j < i then j else i)) H) (tCons (tC (.int 100)) (tCons
      (tOp (rI0 fun i j => .int (f1 i j)) (tOp (rI0 fun i j => .int (f2 i j)) (tOp (rIxT K) (tVar 5) (tVar 13)) (tCall (sp__law_draw K) [] E (tCons (tVar 0) (tCons (tVar 1) (tCons (tC (.int 5)) tNil))))) (tC (.int 2))) tNil))) tNil))) σ S (b + 1) b (fun d => ∃ i, d = .int i ∧ -100 ≤ i ∧ i ≤ 100) := by
  refine en_b (fun x y => tCB _ (tCons x (tCons y tNil))) (fun _ _ _ _ _ => rfl) (en_pure fun T _ => ev_I0 ev_ci ev_ci) (en_b (Χ := fun d => ∃ i, d = .int i ∧ i ≤ 100) (fun x y => tCB _ (tCons x (tCons y tNil))) (fun _ _ _ _ _ => rfl) (en_pure fun T _ => ev_ci) (en_b (Χ := fun d => ∃ i, d = .int i) (fun x y => tOp _ x y) (fun _ _ _ _ _ => rfl) (en_b (Χ := fun d => ∃ i, d = .int i) (fun x y => tOp _ x y) (fun _ _ _ _ _ => rfl) (b1 := b + 1) (Φ := fun d => ∃ i, d = .int i) ?_
    (en_draw (many := 5) (fun T g => ea_cons (ev_varv (hE.up g) e0) (ea_cons (ev_varv (hE.up g) e1) (ea_cons ev_ci ea_nil))) hs (by decide)) ?_) (en_pure fun T g => ev_ci) ?_) ?_) ?_
  · rcases hk with rfl | rfl
    · exact en_imp (en_pure fun T g => ev_ixT (ds := [.int wk.1, .int wk.2.1, .int wk.2.2]) (ev_var (hE.up g) e5) (ev_var (hE.up g) ek) rfl) fun d hd => ⟨_, hd⟩
    · exact en_imp (en_pure fun T g => ev_ixT (ds := [.int wk.1, .int wk.2.1, .int wk.2.2]) (ev_var (hE.up g) e5) (ev_var (hE.up g) ek) rfl) fun d hd => ⟨_, hd⟩
  · rintro d e ⟨i, rfl⟩ ⟨j, rfl, _⟩
    exact ⟨_, ⟨_, rfl⟩, fun x y T _ hx hy => ev_I0 hx hy⟩
  · rintro d e ⟨i, rfl⟩ rfl
    exact ⟨_, ⟨_, rfl⟩, fun x y T _ hx hy => ev_I0 hx hy⟩
  · rintro d e rfl ⟨j, rfl⟩
    exact ⟨_, ⟨_, rfl, by split <;> omega⟩, fun x y T _ hx hy => ev_min2 hx hy⟩
  · rintro d e rfl ⟨j, rfl, hj⟩
    exact ⟨_, ⟨_, rfl, by rw [h3]; split <;> omega, by rw [h3]; split <;> omega⟩, fun x y T _ hx hy => ev_max2 hx hy⟩
theorem mx_lt {i j k : Int} (h : mx (ab i) (ab j) < k) : (-k < i ∧ i < k) ∧ -k < j ∧ j < k := by
  unfold mx ab at h
  split at h <;> split at h <;> split at h <;> omega
theorem strI_wd {c : Int} (h : 0 ≤ c ∧ c < 5) : strI c = wd [c] := by
  have : c = 0 ∨ c = 1 ∨ c = 2 ∨ c = 3 ∨ c = 4 := by omega
  rcases this with rfl | rfl | rfl | rfl | rfl <;> decide +kernel
theorem catS_wd {l : List Int} (h : ∀ c ∈ l, 0 ≤ c ∧ c < 5) : catS l = wd l := by
  have key : ∀ (l ds : List Int), (∀ c ∈ l, 0 ≤ c ∧ c < 5) → l.foldl (fun x i => x ++ strI i) (wd ds) = wd (ds ++ l) := by
    intro l
    induction l with
    | nil => intro ds _; rw [List.append_nil]; rfl
    | cons c l ih =>
      intro ds h
      rw [List.foldl_cons, strI_wd (h c (by simp)), wd_app, ih _ fun x hx => h x (by simp [hx])]
      congr 1
      simp
  exact key l [] h
theorem shp_catS {l : List Int} (h : ∀ c ∈ l, 0 ≤ c ∧ c < 5) {n : Nat} : Shp n (.str (catS l)) := by
  rw [catS_wd h]
  exact (shp_wd h).up (Nat.zero_le _)
end MW

set_option Elab.async false
set_option linter.all false
set_option maxRecDepth 100000
set_option maxHeartbeats 4000000
namespace MW
open PySem PySem.Spec PyProof.Rows L2
set_option autoImplicit false
section
variable {K : PySem.W.Frag} {σ : L2.St} {S T U : Sit} {δ : List Sl} {ta tn : TE} {tr : TA} {E : XK} {X : Ends} {Q : VK} {t b q1 q2 a dx p1 p2 : Addr} {r : Str} {now s : Sta} {past gone past' gone' ps gs : List Sta}
/-- {"now": e, "past": [], "gone": []} -/
theorem te_ownD (h : ∀ T, Same S.G T.G → EvD K tn σ T (eOwn now)) (k : ∀ b q1 q2 T, Le S T → Nw S b → Nw S q1 → Nw S q2 → Od K T b q1 q2 now [] [] → Q (.ref b) T.H) : tDisp [(tC (.str "now"), tn), (tC (.str "past"), tLst tNil), (tC (.str "gone"), tLst tNil)] σ S.H Q := fun p hp => by
  have l0 := S.pushM_le hp (o := .dK []) (ht := fun _ z => HO.noConfusion z)
  refine h (S.pushM p (.dK []) hp) l0.g (S.pushM p (.dK []) hp) (Le.refl _) _ fun v U1 l1 o1 => ?_
  simp only [tPairs, tC]
  refine te_new0 (K := K) fun q1 U2 l2 n2 w2 => ?_
  refine te_new0 (K := K) fun q2 U3 l3 n3 w3 => ?_
  have hp0 : (S.pushM p (.dK []) hp).H p = some (.dK []) := upd_same
  have e3 := ((l1.trans l2).trans l3).2.1 p _ hp0
  have g3 : U3.G p = none := (((l1.trans l2).trans l3).2.2 p _ hp0).trans (S.gfree hp)
  have np1 : p ≠ q1 := n2 p _ (l1.2.1 p _ hp0)
  have np2 : p ≠ q2 := n3 p _ ((l1.trans l2).2.1 p _ hp0)
  have n12 : q1 ≠ q2 := by
    obtain ⟨o, ho⟩ := w2.has
    exact n3 q1 o ho
  have l : Lm [p] U3 (U3.mut p (.dK (odKV v q1 q2)) g3) := lm_mut g3
  refine ⟨e3, odKV v q1 q2, rfl, by show 3 ≤ 15; decide, ?_⟩
  have em : mergeK [] (odKV v q1 q2) = odKV v q1 q2 := by
    have e1 : ¬ (("now" : Str) = "past") := by decide
    have e2 : ¬ (("now" : Str) = "gone") := by decide
    have e4 : ¬ (("past" : Str) = "gone") := by decide
    simp [mergeK, putK, odKV, e1, e2, e4]
  rw [em]
  have lS := l0.trans ((l1.trans l2).trans l3)
  refine k p q1 q2 (U3.mut p (.dK (odKV v q1 q2)) g3) (lm_le lS l hp) (Nw.of hp) (n2.back (l0.trans l1)) (n3.back (l0.trans (l1.trans l2))) ⟨g3, ⟨v, upd_same, Da.up (l2.trans l3).g o1⟩, (w2.up l3).lm l (by simp [Ne.symm np1]), w3.lm l (by simp [Ne.symm np2]), ?_⟩
  simp [np1, np2, n12]
theorem ev_undo0 (ha : Ev K ta σ S (.v (.ref a))) (h : Dk K (cD K) S a dx p1 p2 r now [] gone) (hl : gone.length < 800000) : EvD K (tMeth (cD K) "undo" (sp_undo K) [] E ta tNil) σ S (.bool false) := fun T l Q q =>
  te_undo (ha.up l) (h.up l) hl (fun _ U lU => q _ U lU (Da.bl _)) (fun us s e => by simp at e)
theorem ev_redo0 (ha : Ev K ta σ S (.v (.ref a))) (h : Dk K (cD K) S a dx p1 p2 r now past []) (hl : past.length < 800000) : EvD K (tMeth (cD K) "redo" (sp_redo K) [] E ta tNil) σ S (.bool false) := fun T l Q q =>
  te_redo (ha.up l) (h.up l) hl (fun _ U lU => q _ U lU (Da.bl _)) (fun us s e => by simp at e)
theorem ev_shows (hr : EvA K tr σ S [.v (.ref b), .v (.ref a)]) (od : Od K S b q1 q2 now past gone) (dk : Dk K (cD K) S a dx p1 p2 r now past' gone') : EvD K (tCall (sp__law_shows K) [] E tr) σ S (.bool true) := fun T l Q q => hr T l _ fun vs U lU hv => by
  rw [List.append_nil]
  exact ⟨U, b, q1, q2, a, dx, p1, p2, r, now, past, gone, past', gone', rfl, hv, od.up (l.trans lU), dk.up (l.trans lU), fun W lW => q _ W (lU.trans lW) (Da.bl _)⟩
theorem Od.has3 (h : Od K S b q1 q2 now past gone) : ∀ x ∈ [b, q1, q2], ∃ o, S.H x = some o := fun x hx => by
  simp at hx
  rcases hx with rfl | rfl | rfl
  · obtain ⟨v, e, _⟩ := h.hb
    exact ⟨_, e⟩
  · exact h.o1.has
  · exact h.o2.has
theorem te_turn1 (hr : EvA K tr σ S [.v (.ref b), .d (.str "past"), .d (.str "gone")]) (h : Od K S b q1 q2 now past gone) (hl : gone.length < 800000) (k0 : past = [] → ∀ T, Le S T → Q (.bl false) T.H) (k1 : ∀ us s, past = us ++ [s] → ∀ T, Lm [b, q1, q2] S T → Od K T b q1 q2 s us (gone ++ [now]) → Q (.bl true) T.H) : tCall (sp__law_turn K) [] E tr σ S.H Q := hr S (Le.refl S) _ fun vs U lU hv => by
  rw [List.append_nil]
  exact .inl ⟨U, b, q1, q2, now, past, gone, rfl, hv, h.up lU, hl, fun e T l => k0 e T (lU.trans l), fun us s e T l od => k1 us s e T (lU.tM l (h.up lU).has3) od⟩
theorem te_turn2 (hr : EvA K tr σ S [.v (.ref b), .d (.str "gone"), .d (.str "past")]) (h : Od K S b q1 q2 now past gone) (hl : past.length < 800000) (k0 : gone = [] → ∀ T, Le S T → Q (.bl false) T.H) (k1 : ∀ us s, gone = us ++ [s] → ∀ T, Lm [b, q1, q2] S T → Od K T b q1 q2 s (past ++ [now]) us → Q (.bl true) T.H) : tCall (sp__law_turn K) [] E tr σ S.H Q := hr S (Le.refl S) _ fun vs U lU hv => by
  rw [List.append_nil]
  exact .inr ⟨U, b, q1, q2, now, past, gone, rfl, hv, h.up lU, hl, fun e T l => k0 e T (lU.trans l), fun us s e T l od => k1 us s e T (lU.tM l (h.up lU).has3) od⟩
theorem Bo.nd (h : Bo K S t b q1 q2 a dx p1 p2 r now past gone) : (∀ q ∈ [b, q1, q2], q ∉ [a, p1, p2]) ∧ (∀ q ∈ [a, dx, p1, p2], q ∉ [b, q1, q2]) ∧ t ∉ [a, p1, p2] ∧ t ∉ [b, q1, q2] := by
  have ap := h.ap
  simp only [List.nodup_cons, List.mem_cons, List.not_mem_nil, or_false, not_or] at ap
  obtain ⟨⟨n1, n2, n3, n4, n5, n6, n7⟩, ⟨b2, b3, b4, b5, b6, b7⟩, ⟨c3, c4, c5, c6, c7⟩, ⟨e4, e5, e6, e7⟩, ⟨f5, f6, f7⟩, ⟨g6, g7⟩, g8, _⟩ := ap
  refine ⟨?_, ?_, ?_, ?_⟩
  · simp [b4, b6, b7, c4, c6, c7, e4, e6, e7]
  · simp [Ne.symm b4, Ne.symm b6, Ne.symm b7, Ne.symm c4, Ne.symm c6, Ne.symm c7, Ne.symm e4, Ne.symm e6, Ne.symm e7, Ne.symm b5, Ne.symm c5, Ne.symm e5]
  · simp [n4, n6, n7]
  · simp [n1, n2, n3]
/-- the desk moves, the law's own stays; then it moves likewise -/
theorem Bo.one (h : Bo K S t b q1 q2 a dx p1 p2 r now past gone) (l : Lm [a, p1, p2] S T) : Od K T b q1 q2 now past gone := h.od.lm l h.nd.1
theorem Bo.own (h : Bo K S t b q1 q2 a dx p1 p2 r now past gone) (l : Lm [b, q1, q2] S T) : Dk K (cD K) T a dx p1 p2 r now past gone := h.dk.lm l h.nd.2.1
theorem Bo.both (h : Bo K S t b q1 q2 a dx p1 p2 r now past gone) (dk : Dk K (cD K) T a dx p1 p2 r s ps gs) (l : Lm [b, q1, q2] T U) (od : Od K U b q1 q2 s ps gs) : Bo K U t b q1 q2 a dx p1 p2 r s ps gs := ⟨od, dk.lm l h.nd.2.1, h.ap⟩
theorem Bo.both2 (h : Bo K S t b q1 q2 a dx p1 p2 r now past gone) (od : Od K T b q1 q2 s ps gs) (l : Lm [a, p1, p2] T U) (dk : Dk K (cD K) U a dx p1 p2 r s ps gs) : Bo K U t b q1 q2 a dx p1 p2 r s ps gs := ⟨od.lm l h.nd.1, dk, h.ap⟩
theorem Bo.up (h : Bo K S t b q1 q2 a dx p1 p2 r now past gone) (l : Le S T) : Bo K T t b q1 q2 a dx p1 p2 r now past gone := h.lm (l.lm _)
end
theorem te_deed {K : PySem.W.Frag} {σ : L2.St} {S : Sit} {tr : TA} {E : XK} {Q : VK} {t b q1 q2 a dx p1 p2 sa : Addr} {r : Str} {now : Sta} {past gone : List Sta} {ns : List Int} {bud : Nat} (hr : EvA K tr σ S [.v (.ref sa), .v (.ref t), .d (.str r), .v (.ref b), .v (.ref a)]) (hs : SqL K S.G sa (ns.map V.int)) (ht : Town S t (bud + 20)) (bo : Bo K S t b q1 q2 a dx p1 p2 r now past gone) (ok : Dok r now) (hle : now.fl.length ≤ 90000) (hp : past.length < 800000)
    (k : ∀ s q2' p2' T, Same S.G T.G → Town T t bud → Bo K T t b q1 q2' a dx p1 p2' r s (past ++ [now]) [] → Dok r s → s.fl.length ≤ now.fl.length + 501 → Q (.bl true) T.H) : tCall (sp__law_deed K) [] E tr σ S.H Q := hr S (Le.refl S) _ fun vs U lU hv => by
  rw [List.append_nil]
  exact ⟨U, sa, t, ns, bud, b, q1, q2, a, dx, p1, p2, r, now, past, gone, rfl, hv, lU.g.seq hs, ht.up lU, bo.up lU, ok, hle, hp, fun s q2' p2' W lW tW boW okW lenW => k s q2' p2' W (lU.g.trans lW.g) tW boW okW lenW⟩
theorem tt_not {σ : L2.St} {H : Hp} {te : TE} {Q : Bool → Hp → Prop} (h : te σ H fun v H1 => ∃ b, v = .bl b ∧ Q (!b) H1) : tNot (tB te) σ H Q := h
theorem st_said {K : PySem.W.Frag} {σ : L2.St} {S : Sit} {ta tb : TE} {x : Bool} {t1 : TS} {D : Ends} (h1 : EvD K ta σ S (.bool x)) (h2 : EvD K tb σ S (.bool x)) (k : ∀ U, Le S U → D.nx σ U.H) : tIfS (tOr (tNot (tB (tCB (rIsi K) (tCons ta (tCons (tC (.ty "bool")) tNil))))) (tTest (tOp (rNeD K) ta tb))) t1 tNext D σ S.H :=
  st_if (K := K) (b := false) (eb_is (eb_or (a := false) (eb_is (eb_not (eb_B (ev_isBt h1))) rfl) fun _ => ev_neS h1 h2 (shp_bl x) (by decide)) rfl) (fun e => nomatch e) (fun _ U lU => k U lU)
theorem st_asgTE {σ : L2.St} {H : Hp} {te : TE} {i : Nat} {D : Ends} (h : te σ H fun v H1 => D.nx (σ.set i (some v)) H1) : tAsg te (gName i) D σ H := h
theorem st_ifTE {σ : L2.St} {H : Hp} {tt : TT} {t1 t2 : TS} {D : Ends} (h : tt σ H fun b H1 => if b = true then t1 D σ H1 else t2 D σ H1) : tIfS tt t1 t2 D σ H := h
/-- all states are well -/
def Alls (r : Str) (n : Nat) (now : Sta) (past gone : List Sta) : Prop := ∀ s, (s = now ∨ s ∈ past ∨ s ∈ gone) → Dok r s ∧ s.fl.length ≤ n
theorem Alls.undo {r : Str} {n : Nat} {now s : Sta} {us gone : List Sta} (h : Alls r n now (us ++ [s]) gone) : Alls r n s us (gone ++ [now]) := fun x hx => h x (by
  simp only [List.mem_append, List.mem_singleton] at hx ⊢
  rcases hx with rfl | hx | hx | rfl
  · exact .inr (.inl (.inr rfl))
  · exact .inr (.inl (.inl hx))
  · exact .inr (.inr hx)
  · exact .inl rfl)
theorem Alls.redo {r : Str} {n : Nat} {now s : Sta} {us past : List Sta} (h : Alls r n now past (us ++ [s])) : Alls r n s (past ++ [now]) us := fun x hx => h x (by
  simp only [List.mem_append, List.mem_singleton] at hx ⊢
  rcases hx with rfl | (hx | rfl) | hx
  · exact .inr (.inr (.inr rfl))
  · exact .inr (.inl hx)
  · exact .inl rfl
  · exact .inr (.inr (.inl hx)))
theorem Alls.up {r : Str} {n m : Nat} {now : Sta} {past gone : List Sta} (h : Alls r n now past gone) (l : n ≤ m) : Alls r m now past gone := fun x hx => ⟨(h x hx).1, Nat.le_trans (h x hx).2 l⟩
theorem Alls.deed {r : Str} {n m : Nat} {now s : Sta} {past gone : List Sta} (h : Alls r n now past gone) (ok : Dok r s) (hs : s.fl.length ≤ m) (l : n ≤ m) : Alls r m s (past ++ [now]) [] := fun x hx => by
  simp only [List.mem_append, List.mem_singleton, List.not_mem_nil, or_false] at hx
  rcases hx with rfl | hx | rfl
  · exact ⟨ok, hs⟩
  · exact ⟨(h x (.inr (.inl hx))).1, Nat.le_trans (h x (.inr (.inl hx))).2 l⟩
  · exact ⟨(h x (.inl rfl)).1, Nat.le_trans (h x (.inl rfl)).2 l⟩
end MW

set_option Elab.async false
set_option linter.all false
set_option maxRecDepth 100000
set_option maxHeartbeats 4000000
namespace MW
open PySem PySem.Spec PyProof.Rows L2
set_option autoImplicit false
/-! ### a text so many times -/
def repS (x : Str) (n : Nat) : Str := ⟨(List.replicate n x.cps).foldl (· ++ ·) #[]⟩
abbrev rRepS : R2 := fun x y H Q => ∃ (i : Str) (n : Int), x = .str i ∧ y = .int n ∧ 2 ≤ n ∧ n ≤ 1000 ∧ i.length = 1 ∧ Q (.str (repS i n.toNat)) H
theorem op_repS {X : Cx} : OpR X (binaryOp .Mult) rRepS := by
  intro pins s σ H x y v u Q I rx ry h
  obtain ⟨i, n, rfl, rfl, h2, h3, hl, q⟩ := h
  obtain ⟨t, rfl⟩ := rx
  obtain ⟨t', rfl⟩ := ry
  have e1 : (n == 1 || i.length == 0) = false := by
    rw [hl]
    have : ¬ n = 1 := by omega
    simp [this]
  refine P.mul_str (by simp; omega) (fun _ _ => ?_) (fun _ _ => ?_) ?_
  · rw [hl]
    have : (1 : Int) ≤ (2 ^ 63 - 1) / n := by
      rw [Int.le_ediv_iff_mul_le (by omega)]
      omega
    omega
  · rw [hl, Nat.one_mul]
    show decide (n.toNat > sizeLine) = false
    exact decide_eq_false (Nat.not_lt.mpr (sz (by omega)))
  · rw [if_neg (by omega), e1]
    simp only [Bool.false_eq_true, if_false]
    have hz : ∀ (m : Nat) (acc : Array Nat), ((List.replicate m i.cps).foldl (· ++ ·) acc).size = acc.size + m * i.cps.size := by
      intro m
      induction m with
      | zero => intro acc; simp
      | succ m ih =>
        intro acc
        rw [List.replicate_succ, List.foldl_cons, ih, Array.size_append, Nat.succ_mul]
        omega
    have hs : (repS i n.toNat).length ≤ sizeLine := by
      show ((List.replicate n.toNat i.cps).foldl (· ++ ·) #[]).size ≤ _
      rw [hz]
      have hl' : i.cps.size = 1 := hl
      rw [hl']
      exact sz (by simp; omega)
    exact ⟨hs, .str _, H, I.tok _, ⟨_, rfl⟩, q⟩
theorem ev_repS {K : PySem.W.Frag} {σ : L2.St} {S : Sit} {ta tb : TE} {i : Str} {n : Int} (ha : EvD K ta σ S (.str i)) (hb : EvD K tb σ S (.int n)) (h2 : 2 ≤ n) (h3 : n ≤ 1000) (hl : i.length = 1) : EvD K (tOp rRepS ta tb) σ S (.str (repS i n.toNat)) :=
  ev_two ha hb fun T x y _ hx hy Q q => by
    have ex := Da.str_eq hx; have ey := Da.int_eq hy
    subst ex ey
    exact ⟨i, n, rfl, rfl, h2, h3, hl, q _ T (Le.refl T) (Da.str _)⟩
/-! ### what is refused -/
def AtD (K : PySem.W.Frag) (S : Sit) (kind : Int) (a : Addr) (d : PyData) (x : Str) : Prop := ∃ (dx p1 p2 : Addr) (r : Str) (now : Sta) (past gone : List Sta), Dk K (cD K) S a dx p1 p2 r now past gone ∧ Dok r now ∧ past.length < 800000 ∧
  (((kind = 8 ∨ kind = 9) ∧ (∃ n : Int, d = .int n ∧ mOk n 500 = false) ∧ x = "BadNumber") ∨ (kind = 10 ∧ (∃ i j c : Int, d = .tuple [.int i, .int j, .int c] ∧ mkBad r i j c = true) ∧ x = "BadNumber") ∨ (kind = 11 ∧ (∃ w : List Int, d = eW w ∧ w.length ≤ 1000 ∧ wOk w = false) ∧ x = "BadWalker"))
theorem AtD.up {K : PySem.W.Frag} {S T : Sit} {kind : Int} {a : Addr} {d : PyData} {x : Str} (h : AtD K S kind a d x) (l : Le S T) : AtD K T kind a d x := by
  obtain ⟨dx, p1, p2, r, now, past, gone, dk, rest⟩ := h
  exact ⟨dx, p1, p2, r, now, past, gone, dk.up l, rest⟩
def Ref61 (K : PySem.W.Frag) (S : Sit) (kind : Int) (ss : List Sl) (x : Str) : Prop :=
  (∃ (r : Str) (wls : List (List Int)) (fl : List Mk) (n : Int), ss = [.d (.str r), .d (eWs wls), .d (eF fl), .d (.int n)] ∧ SzF r wls fl ∧ (((kind = 0 ∨ kind = 1) ∧ badF r wls fl n 2000 = some x) ∨ (kind = 2 ∧ badF r wls fl n 500 = some x))) ∨
  (kind = 3 ∧ ∃ (r : Str) (w : List Int) (fl : List Mk) (d : PyData), ss = [.d (.str r), .d (.list [eW w]), .d (eF fl), .d d] ∧ Sz r w fl ∧ bad3 r w fl = some x) ∨
  (kind = 4 ∧ ∃ (r : Str) (d1 d2 : PyData) (n : Int), ss = [.d (.str r), .d d1, .d d2, .d (.int n)] ∧ r.length ≤ 10000 ∧ badM r n = some x) ∨
  ((kind = 5 ∨ kind = 6) ∧ ∃ (r : Str) (w : List Int) (d : PyData) (u : Str), ss = [.d (.str r), .d (.list [eW w]), .d d, .d (.str u)] ∧ r.length ≤ 10000 ∧ w.length ≤ 1000 ∧ u.length ≤ 100000 ∧ badW r w u = some x) ∨
  (kind = 7 ∧ ∃ (r : Str) (d1 d2 : PyData) (u : Str), ss = [.d (.str r), .d d1, .d d2, .d (.str u)] ∧ r.length ≤ 10000 ∧ u.length ≤ 100000 ∧ badX r u = some x) ∨
  (8 ≤ kind ∧ ∃ (d1 d2 d3 d : PyData) (a : Addr), ss = [.d d1, .d d2, .d d3, .d d, .v (.ref a)] ∧ AtD K S kind a d x)
theorem Ref61.up {K : PySem.W.Frag} {S T : Sit} {kind : Int} {ss : List Sl} {x : Str} (h : Ref61 K S kind ss x) (l : Le S T) : Ref61 K T kind ss x := by
  rcases h with h | h | h | h | h | ⟨h, d1, d2, d3, d, a, e, z⟩
  · exact .inl h
  · exact .inr (.inl h)
  · exact .inr (.inr (.inl h))
  · exact .inr (.inr (.inr (.inl h)))
  · exact .inr (.inr (.inr (.inr (.inl h))))
  · exact .inr (.inr (.inr (.inr (.inr ⟨h, d1, d2, d3, d, a, e, z.up l⟩))))
def sp_at_desk (K : PySem.W.Frag) : Sp := fun vs H Q E => ∃ (S : Sit) (kind : Int) (a : Addr) (d : PyData) (x : Str), S.H = H ∧ Vs K S.G vs [.d (.int kind), .v (.ref a), .d d] ∧ AtD K S kind a d x ∧ ∀ T, Le S T → E (.ref (cE K x)) none T.H
def sp_one61 (K : PySem.W.Frag) : Sp := fun vs H Q E => ∃ (S : Sit) (kind : Int) (p : Addr) (xs : List V) (ss : List Sl) (x : Str), S.H = H ∧ Vs K S.G vs [.d (.int kind), .v (.ref p)] ∧ S.G p = some (.lst xs) ∧ Vs K S.G xs ss ∧ Ref61 K S kind ss x ∧ ∀ T, Le S T → E (.ref (cE K x)) none T.H
def sp_told61 (K : PySem.W.Frag) : Sp := fun vs H Q _ => ∃ (S : Sit) (kind : Int) (p : Addr) (xs : List V) (ss : List Sl) (x : Str), S.H = H ∧ Vs K S.G vs [.d (.int kind), .v (.ref p)] ∧ S.G p = some (.lst xs) ∧ Vs K S.G xs ss ∧ Ref61 K S kind ss x ∧ x ∈ kinds5 ∧ ∀ v T, Le S T → Da K T.G v (eRef x) → Q v T.H
section
variable {K : PySem.W.Frag} {σ : L2.St} {S : Sit} {δ : List Sl} {ta tb td : TE} {tr : TA} {E : XK} {X : Ends} {Q : VK} {x : Str}
/-- a, b, c, d = e[:4] -/
theorem st_four4 {i j k m : Nat} {p : Addr} {xs : List V} {s1 s2 s3 s4 : Sl} {more : List Sl} (hE : Sv K S.G σ δ) (ha : Ev K ta σ S (.v (.ref p))) (hp : S.G p = some (.lst xs)) (hx : Vs K S.G xs (s1 :: s2 :: s3 :: s4 :: more)) (q : ∀ σ' T, Le S T → Sv K T.G σ' ((((δ.set i s1).set j s2).set k s3).set m s4) → X.nx σ' T.H) :
    tAsg (L2.tSl (rSlL K) ta tNoPart (tPart (tC (.int 4)))) (gLst K 4 (gCons (gName i) (gCons (gName j) (gCons (gName k) (gCons (gName m) gNil))))) X σ S.H :=
  ha S (Le.refl S) _ fun v U lU o => by
    cases (show some v = some (V.ref p) from o)
    refine ⟨4, rfl, p, xs, rfl, SqL.of (U.sub _ _ (lU.g _ _ hp)), fun tp htp => ?_⟩
    have hx := Vs.up lU.g hx
    match xs, hx with
    | v1 :: v2 :: v3 :: v4 :: vs, .cons o1 (.cons o2 (.cons o3 (.cons o4 _))) =>
      have ec : cutV (v1 :: v2 :: v3 :: v4 :: vs) none (some 4) = [v1, v2, v3, v4] := by
        unfold cutV
        have h0 : HT.sIx (v1 :: v2 :: v3 :: v4 :: vs).length 0 none = 0 := rfl
        have h4 : HT.sIx (v1 :: v2 :: v3 :: v4 :: vs).length (v1 :: v2 :: v3 :: v4 :: vs).length (some 4) = 4 := by
          simp [HT.sIx]
          try omega
        rw [h0, h4]
        rfl
      have lP := U.push_le htp (o := .lst (cutV (v1 :: v2 :: v3 :: v4 :: vs) none (some 4)))
      refine ⟨tp, [v1, v2, v3, v4], rfl, SqL.of (by show upd U.H tp _ tp = _; rw [ec, upd_same]), rfl, v1, [v2, v3, v4], rfl, v2, [v3, v4], rfl, v3, [v4], rfl, v4, [], rfl, rfl, ?_⟩
      exact q _ (U.push tp _ htp) (lU.trans lP) (Sv.set (o4.up lP.g) m (Sv.set (o3.up lP.g) k (Sv.set (o2.up lP.g) j (Sv.set (o1.up lP.g) i (hE.up (lU.trans lP).g)))))
theorem ev_ixM {p : Addr} {xs : List V} {ss : List Sl} {n : Nat} {v : V} (ha : Ev K ta σ S (.v (.ref p))) (hb : EvD K tb σ S (.int (n : Nat))) (hp : S.G p = some (.lst xs)) (hv : xs[n]? = some v) : Ev K (tOp (rIxL K) ta tb) σ S (.v v) :=
  ev_two ha hb fun T x y l hx hy Q q => by
    cases (show some x = some (V.ref p) from hx)
    have ey := Da.int_eq hy
    subst ey
    refine ⟨p, xs, (n : Nat), v, rfl, rfl, SqL.of (T.sub _ _ (l.g _ _ hp)), ?_, q v T (Le.refl T) rfl⟩
    have hl := (List.getElem?_eq_some_iff.mp hv).1
    rw [atI_nat (by omega) (by simpa using hl)]
    have := (List.getElem?_eq_some_iff.mp hv).2
    simp only [Int.toNat_natCast]
    rw [this]
theorem tc_fask {F : AnsF} {most : Int} {r : Str} {wls : List (List Int)} {fl : List Mk} {n : Int} (ha : EvA K tr σ S [.d (.str r), .d (eWs wls), .d (eF fl), .d (.int n)]) (hz : SzF r wls fl) (hb : badF r wls fl n most = some x) (k : ∀ T, Le S T → E (.ref (cE K x)) none T.H) : tCall (sp_fask most F K) [] E tr σ S.H Q :=
  ha S (Le.refl S) _ fun vs T l hv => by
    rw [List.append_nil]
    exact ⟨T, r, wls, fl, n, rfl, hv, hz, (fun y e U lU => by rw [hb] at e; cases e; exact k U (l.trans lU)), fun e => by rw [hb] at e; cases e⟩
theorem tc_wask {F : AnsW} {r u : Str} {wl : List Int} (ha : EvA K tr σ S [.d (.str r), .d (eW wl), .d (.str u)]) (h1 : r.length ≤ 10000) (h2 : wl.length ≤ 1000) (h3 : u.length ≤ 100000) (hb : badW r wl u = some x) (k : ∀ T, Le S T → E (.ref (cE K x)) none T.H) : tCall (sp_wask F K) [] E tr σ S.H Q :=
  ha S (Le.refl S) _ fun vs T l hv => by
    rw [List.append_nil]
    exact ⟨T, r, wl, u, rfl, hv, h1, h2, h3, (fun y e U lU => by rw [hb] at e; cases e; exact k U (l.trans lU)), fun e => by rw [hb] at e; cases e⟩
theorem tc_many {r : Str} {n : Int} (ha : EvA K tr σ S [.d (.str r), .d (.int n)]) (h1 : r.length ≤ 10000) (hb : badM r n = some x) (k : ∀ T, Le S T → E (.ref (cE K x)) none T.H) : tCall (sp_many_words K) [] E tr σ S.H Q :=
  ha S (Le.refl S) _ fun vs T l hv => by
    rw [List.append_nil]
    exact ⟨T, r, n, rfl, hv, h1, (fun y e U lU => by rw [hb] at e; cases e; exact k U (l.trans lU)), fun e => by rw [hb] at e; cases e⟩
theorem tc_next {r u : Str} (ha : EvA K tr σ S [.d (.str r), .d (.str u)]) (h1 : r.length ≤ 10000) (h2 : u.length ≤ 100000) (hb : badX r u = some x) (k : ∀ T, Le S T → E (.ref (cE K x)) none T.H) : tCall (sp_next_signs K) [] E tr σ S.H Q :=
  ha S (Le.refl S) _ fun vs T l hv => by
    rw [List.append_nil]
    exact ⟨T, r, u, rfl, hv, h1, h2, (fun y e U lU => by rw [hb] at e; cases e; exact k U (l.trans lU)), fun e => by rw [hb] at e; cases e⟩
theorem tc_make {r : Str} {w : List Int} {fl : List Mk} (ha : EvA K tr σ S [.d (.str r), .d (eW w), .d (eF fl)]) (hz : Sz r w fl) (hb : bad3 r w fl = some x) (k : ∀ T, Le S T → E (.ref (cE K x)) none T.H) : tMake (cD K) (sp_init K) [] E tr σ S.H Q :=
  ha S (Le.refl S) _ fun vs T l o a dx h1 h2 h3 => by
    rw [List.append_nil]
    have h1' : (T.pushM dx (.own a) h2).H a = none := by
      show upd T.H dx _ a = none
      rw [upd_ne (Ne.symm h3)]
      exact h1
    have lA := T.pushM_le h2 (o := .own a) (ht := fun _ z => HO.noConfusion z)
    have lB := (T.pushM dx (.own a) h2).pushM_le h1' (o := .ins (cD K) dx []) (ht := fun _ z => HO.noConfusion z)
    refine ⟨(T.pushM dx (.own a) h2).pushM a (.ins (cD K) dx []) h1', a, dx, r, w, fl, rfl, .cons rfl (Vs.up (lA.trans lB).g o), T.gfree h1, T.gfree h2, upd_same, ?_, Ne.symm h3, hz, (fun y e U lU => by rw [hb] at e; cases e; exact k U ((l.trans (lA.trans lB)).trans lU)), fun e => by rw [hb] at e; cases e⟩
    show upd (upd T.H dx _) a _ dx = _
    rw [upd_ne h3, upd_same]
/-- a refusal, asked with a list written there -/
theorem ev_toldL {kind : Int} {ss : List Sl} (ha : EvD K ta σ S (.int kind)) (hr : EvA K tr σ S ss) (hl : ss.length ≤ 1000) (h : Ref61 K S kind ss x) (hx : x ∈ kinds5) : EvD K (tCall (sp_told61 K) [] E (tCons ta (tCons (tLst tr) tNil))) σ S (eRef x) := fun T l Q q =>
  ha T l _ fun v U lU o => hr U (l.trans lU) _ fun xs W lW o2 => by
    have ev := Da.int_eq o
    subst ev
    refine ⟨sz (by rw [o2.len]; omega), fun p hp => ?_⟩
    have lP := W.push_le hp (o := .lst xs)
    show sp_told61 K ([V.int kind, V.ref p] ++ []) _ Q E
    rw [List.append_nil]
    exact ⟨W.push p (.lst xs) hp, kind, p, xs, ss, x, rfl, .cons (Da.int _) (.cons rfl .nil), upd_same, Vs.up lP.g o2, h.up (((l.trans lU).trans lW).trans lP), hx, fun v Y lY o => q v Y (((lU.trans lW).trans lP).trans lY) o⟩
/-- .. with a list that is at hand -/
theorem ev_toldD {kind : Int} {ds : List PyData} (hr : EvA K tr σ S [.d (.int kind), .d (.list ds)]) (h : Ref61 K S kind (ds.map Sl.d) x) (hx : x ∈ kinds5) : EvD K (tCall (sp_told61 K) [] E tr) σ S (eRef x) := fun T l Q q =>
  hr T l _ fun vs U lU o => by
    rw [List.append_nil]
    match vs, o with
    | [v1, v2], .cons o1 (.cons o2 .nil) =>
      obtain ⟨p, xs, rfl, e1, e2⟩ := Da.lst_eq o2
      exact ⟨U, kind, p, xs, ds.map Sl.d, x, rfl, .cons o1 (.cons rfl .nil), e1, e2.vs, h.up (l.trans lU), hx, fun v Y lY o => q v Y (lU.trans lY) o⟩
end
end MW

set_option Elab.async false
set_option linter.all false
set_option maxRecDepth 100000
set_option maxHeartbeats 4000000
namespace MW
open PySem PySem.Spec PyProof.Rows L2
set_option autoImplicit false
theorem shp_ref {x : Str} (h : x ∈ kinds5) : Shp 1 (eRef x) := shp_tup fun d hd => by
  simp at hd
  rcases hd with rfl | rfl
  · exact shp_str (by decide +kernel)
  · unfold kinds5 at h
    simp only [List.mem_cons, List.not_mem_nil, or_false] at h
    rcases h with rfl | rfl | rfl | rfl | rfl <;> exact shp_str (by decide +kernel)
theorem wd_rule : wordOf "BadRule" = "rule" := by decide +kernel
theorem wd_floor : wordOf "BadFloor" = "floor" := by decide +kernel
theorem wd_walker : wordOf "BadWalker" = "walker" := by decide +kernel
theorem wd_number : wordOf "BadNumber" = "number" := by decide +kernel
theorem wd_text : wordOf "BadText" = "text" := by decide +kernel
/-- [("refused", word) for word in (..)] -/
theorem shp_refs {xs : List Str} (h : ∀ x ∈ xs, x ∈ kinds5) : Shp 2 (.list (xs.map eRef)) := shp_list fun d hd => by
  obtain ⟨x, hx, rfl⟩ := List.mem_map.mp hd
  exact shp_ref (h x hx)
section
variable {K : PySem.W.Frag} {σ : L2.St} {S : Sit} {δ : List Sl} {ta tb te : TE} {tr : TA} {E : XK} {X : Ends} {Q : VK} {t a dx p1 p2 : Addr} {r : Str} {now : Sta} {past gone : List Sta} {b b1 : Nat}
theorem ev_words61 {i : Nat} {xs : List Str} {wi : TI} (hE : Sv K S.G σ δ) (hi : EvI K wi σ S (xs.map fun x => .str (wordOf x))) (hl : xs.length ≤ 1000) (hL : i < δ.length) : EvD K (tLc wi (gName i) tYes (tTup (tCons (tC (.str "refused")) (tCons (tVar i) tNil))) [i]) σ S (.list (xs.map eRef)) :=
  ev_lcm (xs := xs) (enc := fun x => .str (wordOf x)) hE hi (fun x => [(i, .str (wordOf x))]) eRef (fun x _ => tg_name) (fun x _ q hq => by simp at hq; subst hq; simp) (fun x _ σ' T l hE' => ev_tup (ds := [.str "refused", .str (wordOf x)]) (ea_ds ev_cs (ea_ds (ev_var hE' (by
    show ((δ.set i .non).set i (.d (.str (wordOf x))))[i]? = _
    rw [List.getElem?_set_self (by simpa using hL)])) ea_d0)) (by show 2 ≤ _; decide)) (by omega)
theorem ev_neO {p : Addr} {ds : List PyData} {e : PyData} (ha : Ev K ta σ S (.v (.ref p))) (h : Ow K S p ds) (hb : EvD K tb σ S e) (h1 : SeqAt.shaped (.list ds) = true) (h2 : SeqAt.shaped e = true) : EvD K (tOp (rNeD K) ta tb) σ S (.bool (!PyData.eqv (.list ds) e)) :=
  ev_two ha hb fun T x y l hx hy Q q => by
    cases (show some x = some (V.ref p) from hx)
    obtain ⟨xs, e1, e2⟩ := (h.up l).seq
    exact ⟨.list ds, e, Dp.lst e1 (DaAll.dp (DaAll.up T.sub e2)), (Da.up T.sub hy).dp, h1, h2, q _ T (Le.refl T) (Da.bl _)⟩
/-- desk.on(e), e drawn -/
theorem te_onN (ha : Ev K ta σ S (.v (.ref a))) (h : Dk K (cD K) S a dx p1 p2 r now past gone) (ok : Dok r now) (hp : past.length < 800000) (ht : Town S t b) (nt : t ∉ [a, dx, p1, p2]) (he : ∀ T, Lt t S T → EvN K t te σ T b b1 (fun d => ∃ n : Nat, d = .int (n : Nat) ∧ n ≤ 500)) (k : ∀ m p T, m ≤ 500 → Same S.G T.G → Town T t b1 → t ≠ p → Dk K (cD K) T a dx p1 p r (onS r now m) (past ++ [now]) [] → Q (.str (onT r now m)) T.H) : tMeth (cD K) "on" (sp_on K) [] E ta (tCons te tNil) σ S.H Q :=
  ha S (Le.refl S) _ fun v U l o => by
    cases (show some v = some (V.ref a) from o)
    have hU := h.up l
    obtain ⟨v, e, _⟩ := hU.ha
    refine ⟨a, dx, _, rfl, e, rfl, ?_⟩
    refine he U (l.lm _) U (Lt.refl U) (ht.up l) _ fun d v2 W hd lW tW oW => ?_
    obtain ⟨m, rfl, hm⟩ := hd
    have ev := Da.int_eq oW
    subst ev
    have hW : Dk K (cD K) W a dx p1 p2 r now past gone := hU.lm lW fun q hq z => by simp at z; subst z; exact nt hq
    show sp_on K (V.ref a :: ([V.int (m : Nat)] ++ [])) W.H Q E
    simp only [List.mem_cons, List.not_mem_nil, or_false, not_or] at nt
    refine ⟨(m : Nat), W, a, dx, p1, p2, r, now, past, gone, rfl, .cons rfl (.cons (Da.int _) .nil), hW, ok, hp, (fun z => by unfold mOk at z; simp at z; omega), fun m' e _ p Y lY np dk => ?_⟩
    have e : m = m' := by omega
    subst e
    obtain ⟨o, ho⟩ := tW.has
    exact k m p Y hm ((l.g.trans lW.g).trans lY.g) (tW.lms lY (by simp [nt.1, nt.2.2.1])) (np t o ho) dk
/-- a refusal at a desk, what is asked drawn -/
theorem en_toldP {kind : Int} {x : Str} {d1 d2 d3 : PyData} {t1 t2 t3 tp : TE} {Φ : PyData → Prop} (ha : ∀ T, Same S.G T.G → EvD K ta σ T (.int kind)) (h1 : ∀ T, Same S.G T.G → EvD K t1 σ T d1) (h2 : ∀ T, Same S.G T.G → EvD K t2 σ T d2) (h3 : ∀ T, Same S.G T.G → EvD K t3 σ T d3) (hp : ∀ T, Lt t S T → EvN K t tp σ T b b1 Φ) (hd : ∀ T, Same S.G T.G → Ev K tb σ T (.v (.ref a))) (hat : ∀ d, Φ d → ∀ T, Lt t S T → AtD K T kind a d x) (hk : 8 ≤ kind) (hx : x ∈ kinds5) :
    EvN K t (tCall (sp_told61 K) [] E (tCons ta (tCons (tLst (tCons t1 (tCons t2 (tCons t3 (tCons tp (tCons tb tNil)))))) tNil))) σ S b b1 (fun d => d = eRef x) := fun T l ht Q q =>
  ha T l.g T (Le.refl T) _ fun v0 U0 l0 o0 => h1 U0 (l.g.trans l0.g) U0 (Le.refl _) _ fun v1 U1 l1 o1 => h2 U1 ((l.g.trans l0.g).trans l1.g) U1 (Le.refl _) _ fun v2 U2 l2 o2 => h3 U2 (((l.g.trans l0.g).trans l1.g).trans l2.g) U2 (Le.refl _) _ fun v3 U3 l3 o3 => by
    have ev := Da.int_eq o0
    subst ev
    have lA := ((l0.trans l1).trans l2).trans l3
    have lS3 : Lt t S U3 := Lt.trans l (lA.lm _) ht.has
    refine hp U3 lS3 U3 (Lt.refl _) (ht.up lA) _ fun d v4 U4 hd4 l4 t4 o4 => ?_
    have lS4 : Lt t S U4 := Lt.trans lS3 l4 (ht.up lA).has
    refine hd U4 lS4.g U4 (Le.refl _) _ fun v5 U5 l5 o5 => ?_
    have lS5 : Lt t S U5 := Lt.trans lS4 (l5.lm _) t4.has
    refine ⟨sz (by show 5 ≤ _; decide), fun p hp => ?_⟩
    have lP := U5.push_le hp (o := .lst [v1, v2, v3, v4, v5])
    show sp_told61 K ([V.int kind, V.ref p] ++ []) _ Q E
    rw [List.append_nil]
    have g5 := (l4.g.trans l5.g).trans lP.g
    refine ⟨U5.push p (.lst [v1, v2, v3, v4, v5]) hp, kind, p, [v1, v2, v3, v4, v5], [.d d1, .d d2, .d d3, .d d, .v (.ref a)], x, rfl, .cons (Da.int _) (.cons rfl .nil), upd_same, .cons (Da.up (((l1.g.trans l2.g).trans l3.g).trans g5 |> fun z => (Same.trans (l2.g.trans l3.g) g5)) o1) (.cons (Da.up (l3.g.trans g5) o2) (.cons (Da.up g5 o3) (.cons (Da.up (l5.g.trans lP.g) o4) (.cons o5 .nil)))), .inr (.inr (.inr (.inr (.inr ⟨hk, d1, d2, d3, d, a, rfl, (hat d hd4 U5 lS5).up lP⟩)))), hx, fun v Y lY o => ?_⟩
    exact q _ v Y rfl (Lt.trans (Lt.trans (Lt.trans (lA.lm _) l4 (ht.up lA).has) ((l5.trans lP).lm _) t4.has) (lY.lm _) ((t4.up l5).up lP).has) (((t4.up l5).up lP).up lY) o
end
/-! ### what can't be -/
theorem wd_bad {r u : Str} {ch : Nat} (h5 : r.length ≤ 5) (hm : ch ∈ u.cps.toList) (hb : ch < 48 ∨ 48 + r.length ≤ ch) : wdOk r u = false := by
  cases e : wdOk r u with
  | false => rfl
  | true =>
    obtain ⟨cs, rfl, hc, _⟩ := wdOk_at h5 e
    rw [wd_tl] at hm
    obtain ⟨c, h, rfl⟩ := List.mem_map.mp hm
    have := hc c h
    unfold dig at hb
    omega
theorem wd_long {r u : Str} (h : 200 < u.length) : wdOk r u = false := by
  unfold wdOk
  rw [decide_eq_false (by omega), Bool.false_and]
def badWords (r : Str) : List PyData := [.str "5", .str (repS "0" 201), .str "a", .str "-1", .str " ", .str (strI (r.length : Nat))]
theorem badWords_at {r : Str} (rl : 2 ≤ r.length ∧ r.length ≤ 5) {d : PyData} (h : d ∈ badWords r) : ∃ u : Str, d = .str u ∧ u.length ≤ 1000 ∧ wdOk r u = false := by
  unfold badWords at h
  simp only [List.mem_cons, List.not_mem_nil, or_false] at h
  rcases h with rfl | rfl | rfl | rfl | rfl | rfl
  · exact ⟨_, rfl, by decide +kernel, wd_bad (ch := 53) rl.2 (by decide +kernel) (by omega)⟩
  · refine ⟨_, rfl, by decide +kernel, wd_long (by decide +kernel)⟩
  · exact ⟨_, rfl, by decide +kernel, wd_bad (ch := 97) rl.2 (by decide +kernel) (by omega)⟩
  · exact ⟨_, rfl, by decide +kernel, wd_bad (ch := 45) rl.2 (by decide +kernel) (by omega)⟩
  · exact ⟨_, rfl, by decide +kernel, wd_bad (ch := 32) rl.2 (by decide +kernel) (by omega)⟩
  · have : r.length = 2 ∨ r.length = 3 ∨ r.length = 4 ∨ r.length = 5 := by omega
    rcases this with e | e | e | e
    · exact ⟨_, rfl, by rw [e]; decide +kernel, wd_bad (ch := 50) rl.2 (by rw [e]; decide +kernel) (by omega)⟩
    · exact ⟨_, rfl, by rw [e]; decide +kernel, wd_bad (ch := 51) rl.2 (by rw [e]; decide +kernel) (by omega)⟩
    · exact ⟨_, rfl, by rw [e]; decide +kernel, wd_bad (ch := 52) rl.2 (by rw [e]; decide +kernel) (by omega)⟩
    · exact ⟨_, rfl, by rw [e]; decide +kernel, wd_bad (ch := 53) rl.2 (by rw [e]; decide +kernel) (by omega)⟩
def badFloors : List (List Mk) := [[(0, 0, 0)], [(0, 0, 5)], [(1, 0, 1), (0, 0, 1)], [(0, 0, 1), (0, 0, 1)], [(101, 0, 1)]]
theorem badFloors_at {r : Str} (rl : 2 ≤ r.length ∧ r.length ≤ 5) {fl : List Mk} (h : fl ∈ badFloors) : floorOk r.length fl = false ∧ fl.length ≤ 2 := by
  unfold badFloors at h
  simp only [List.mem_cons, List.not_mem_nil, or_false] at h
  have : r.length = 2 ∨ r.length = 3 ∨ r.length = 4 ∨ r.length = 5 := by omega
  rcases h with rfl | rfl | rfl | rfl | rfl <;> rcases this with e | e | e | e <;> rw [e] <;> decide +kernel
def oddRules : List Str := ["", "L", "LLLLLL", "LX", "lr", "R N"]
theorem oddRules_at {r : Str} (h : r ∈ oddRules) : ruleOk r = false ∧ r.length ≤ 6 := by
  unfold oddRules at h
  simp only [List.mem_cons, List.not_mem_nil, or_false] at h
  rcases h with rfl | rfl | rfl | rfl | rfl | rfl <;> decide +kernel
def oddWalkers : List (List Int) := [[101, 0, 0], [0, 0 - 101, 1], [0, 0, 4], [0, 0], [0, 0, 0, 0]]
def oddWalkers2 : List (List Int) := [[101, 0, 0], [0, 0 - 101, 1], [0, 0, 4], [0, 0, 0 - 1], [0, 0]]
theorem oddWalkers_at {w : List Int} (h : w ∈ oddWalkers ∨ w ∈ oddWalkers2) : wOk w = false ∧ w.length ≤ 4 := by
  unfold oddWalkers oddWalkers2 at h
  simp only [List.mem_cons, List.not_mem_nil, or_false] at h
  rcases h with (rfl | rfl | rfl | rfl | rfl) | (rfl | rfl | rfl | rfl | rfl) <;> decide
def flocks61 (wk : Wk) (o : List Int) : List (List (List Int)) := [[], List.replicate 7 (w3 wk), [w3 wk, o], [o, o]]
theorem badF_rule {r : Str} {wls : List (List Int)} {fl : List Mk} {n most : Int} (h : ruleOk r = false) : badF r wls fl n most = some ("BadRule" : Str) := by unfold badF; rw [if_pos h]
theorem badF_walker {r : Str} {wk : Wk} {o : List Int} {wls : List (List Int)} {fl : List Mk} {n most : Int} (h : ruleOk r = true) (ho : wOk o = false) (hw : wls ∈ flocks61 wk o) : badF r wls fl n most = some ("BadWalker" : Str) := by
  unfold badF
  rw [if_neg (by rw [h]; decide)]
  unfold flocks61 at hw
  simp only [List.mem_cons, List.not_mem_nil, or_false] at hw
  rcases hw with rfl | rfl | rfl | rfl
  · rw [if_pos (by decide)]
  · rw [if_pos (by simp)]
  · rw [if_neg (by simp), if_pos (by simp [ho])]
  · rw [if_neg (by simp), if_pos (by simp [ho])]
theorem badF_floor {r : Str} {wk : Wk} {fl : List Mk} {n most : Int} (h : ruleOk r = true) (hw : wOk (w3 wk) = true) (hf : floorOk r.length fl = false) : badF r [w3 wk] fl n most = some ("BadFloor" : Str) := by
  unfold badF
  rw [if_neg (by rw [h]; decide), if_neg (by simp), if_neg (by simp [hw]), if_pos hf]
theorem badF_num {r : Str} {wk : Wk} {fl : List Mk} {n most : Int} (h : ruleOk r = true) (hw : wOk (w3 wk) = true) (hf : floorOk r.length fl = true) (hn : mOk n most = false) : badF r [w3 wk] fl n most = some ("BadNumber" : Str) := by
  unfold badF
  rw [if_neg (by rw [h]; decide), if_neg (by simp), if_neg (by simp [hw]), if_neg (by rw [hf]; decide), if_pos hn]
theorem ref_f {K : PySem.W.Frag} {S : Sit} {kind : Int} {r : Str} {wls : List (List Int)} {fl : List Mk} {n : Int} {x : Str} (hk : kind = 0 ∨ kind = 1 ∨ kind = 2) (hz : SzF r wls fl) (h : ∀ most : Int, (most = 2000 ∨ most = 500) → badF r wls fl n most = some x) : Ref61 K S kind [.d (.str r), .d (eWs wls), .d (eF fl), .d (.int n)] x := by
  refine .inl ⟨r, wls, fl, n, rfl, hz, ?_⟩
  rcases hk with rfl | rfl | rfl
  · exact .inl ⟨.inl rfl, h _ (.inl rfl)⟩
  · exact .inl ⟨.inr rfl, h _ (.inl rfl)⟩
  · exact .inr ⟨rfl, h _ (.inr rfl)⟩
/-! ### the promise of the law's desk -/
def sp__law_desk (K : PySem.W.Frag) : Sp := fun vs H Q _ => ∃ (S : Sit) (sa t : Addr) (ns : List Int) (bud : Nat) (r : Str) (wk : Wk) (fl : List Mk), S.H = H ∧ Vs K S.G vs [.v (.ref sa), .v (.ref t), .d (.str r), .d (eW3 wk), .d (eF fl)] ∧ SqL K S.G sa (ns.map V.int) ∧ Town S t (bud + 10) ∧ ruleOk r = true ∧ wOk (w3 wk) = true ∧ floorOk r.length fl = true ∧ ∀ H', Q (.bl true) H'
end MW

set_option Elab.async false
set_option linter.all false
set_option maxRecDepth 100000
set_option maxHeartbeats 4000000
namespace MW
open PySem PySem.Spec PyProof.Rows L2
set_option autoImplicit false
/-! ### k40's own -/
section
variable {K : PySem.W.Frag} {σ : L2.St} {S : Sit} {E : XK} {tr : TA} {t r : Cs} {wk : Wk} {fl : List Mk}
theorem ev_told40 (ha : EvA K tr σ S [.d (.str (cS t))]) (hl : t.length ≤ 5000) (hc : ∀ c ∈ t, c < 128) : EvD K (tCall (sp_told40 K) [] E tr) σ S (told40 t) := fun T l Q q => ha T l _ fun vs U lU hv => by
  rw [List.append_nil]
  exact ⟨U, t, rfl, hv, hl, hc, fun v W lW o => q v W (lU.trans lW) o⟩
theorem ev_read40 (ha : EvA K tr σ S [.d (.str (cS t))]) (hl : t.length ≤ 5000) (hc : ∀ c ∈ t, c < 128) (hn : t.count 32 ≤ 250) : EvD K (tCall (sp__law_read K) [] E tr) σ S (told40N t) := fun T l Q q => ha T l _ fun vs U lU hv => by
  rw [List.append_nil]
  exact ⟨U, t, rfl, hv, hl, hc, hn, fun v W lW o => q v W (lU.trans lW) o⟩
theorem ev_written (ha : EvA K tr σ S [.d (.str (cS r)), .d (eW3 wk), .d (eF fl)]) (hz : Sz (cS r) (w3 wk) fl) (hb : bad3 (cS r) (w3 wk) fl = none) : EvD K (tCall (sp_written K) [] E tr) σ S (.str (cS (wrL r wk fl))) := fun T l Q q => ha T l _ fun vs U lU hv => by
  rw [List.append_nil]
  refine ⟨U, r, w3 wk, fl, rfl, hv, hz, (fun x e => by rw [hb] at e; cases e), fun _ wk' ew v W lW o => ?_⟩
  cases w3_inj ew
  exact q v W (lU.trans lW) o
end
theorem shp_rwf {x : Cs × Wk × List Mk} (h : okRWF x.1 x.2.1 x.2.2 = true) : Shp 3 (eRWF x) := by
  obtain ⟨h1, _, _⟩ := okRWF_at h
  refine shp_tup fun d hd => ?_
  simp only [List.mem_cons, List.mem_nil_iff, or_false] at hd
  rcases hd with rfl | rfl | rfl
  · exact (shp_cs fun c hc => by have := rule_signs h1 c hc; omega).up (by decide)
  · exact (shp_M x.2.1).up (by decide)
  · exact shp_map shp_M _
theorem shp_told40 (t : Cs) : Shp 3 (told40 t) := by
  unfold told40
  cases h : lawR t with
  | none => exact (shp_ref (by decide)).up (by decide)
  | some x =>
    obtain ⟨r, w, f⟩ := x
    exact shp_rwf (lawR_at h).1
theorem told40_N (t : Cs) : told40 t = if isNone (told40N t) then eRef "BadText" else told40N t := by
  unfold told40 told40N
  cases lawR t <;> rfl
/-! ### a sign put in, taken out or made another -/
def bent (t s : Cs) (i j : Nat) : Cs := t.take i ++ s ++ t.drop j
theorem bent_len {t s : Cs} {i j : Nat} (h : i ≤ j) (hs : s.length ≤ 1) : (bent t s i j).length ≤ t.length + 1 := by
  unfold bent
  simp only [List.length_append, List.length_take, List.length_drop]
  omega
theorem bent_mem {t s : Cs} {i j : Nat} {n : Nat} (h : ∀ c ∈ t, c < n) (hs : ∀ c ∈ s, c < n) : ∀ c ∈ bent t s i j, c < n := fun c hc => by
  unfold bent at hc
  rcases List.mem_append.mp hc with hc | hc
  · rcases List.mem_append.mp hc with hc | hc
    · exact h c (List.mem_of_mem_take hc)
    · exact hs c hc
  · exact h c (List.mem_of_mem_drop hc)
theorem bent_count {t s : Cs} {i j c : Nat} (h : i ≤ j) (hs : s.length ≤ 1) : (bent t s i j).count c ≤ t.count c + 1 := by
  unfold bent
  rw [List.count_append, List.count_append]
  have e1 : t.count c = (t.take i).count c + (t.drop i).count c := by
    rw [← List.count_append, List.take_append_drop]
  have e2 : (t.drop j).count c ≤ (t.drop i).count c := by
    have : j = i + (j - i) := by omega
    rw [this, ← List.drop_drop]
    exact List.Sublist.count_le _ (List.drop_sublist _ _)
  have e3 := List.count_le_length (a := c) (l := s)
  omega
theorem wr_count {r : Cs} {w : Wk} {f : List Mk} (h : okRWF r w f = true) : (wrL r w f).count 32 ≤ 201 := by
  have e := spC_count 32 (wrL r w f)
  rw [words_wr h] at e
  have l := (floorOk_at (okRWF_at h).2.2).1
  simp only [List.length_cons, List.length_map] at e
  omega
def someL : Cs := [48, 49, 50, 51, 52, 53, 54, 55, 56, 57, 45, 44, 58, 32, 94, 62, 118, 60, 76, 78, 82, 85, 43, 95, 46, 120, 88, 97, 98, 122, 10, 9]
theorem lit_some : ("0123456789-,: ^>v<LNRU+_.xXabz\n\t" : Str) = cS someL := by decide +kernel
theorem lit_zero : ("0" : Str) = cS [48] := by decide +kernel
theorem some_lt : ∀ c ∈ someL, c < 128 := by decide
theorem some_at {i : Int} (h0 : 0 ≤ i) (h1 : i < 32) : ∃ c ∈ someL, L2.atI someL i = some c := by
  have key : ∀ k ∈ List.range 32, ∃ c ∈ someL, L2.atI someL ((k : Nat) : Int) = some c := by decide +kernel
  obtain ⟨k, rfl⟩ := Int.eq_ofNat_of_zero_le h0
  exact key k (List.mem_range.mpr (by omega))
def fiveL : List Cs := [[], [82, 76], [82, 76, 32, 48, 44, 48], [82, 76, 32, 94], [82, 76, 32, 48, 44, 48, 94, 32]]
theorem five_none : ∀ t ∈ fiveL, lawR t = none ∧ t.length ≤ 5000 ∧ ∀ c ∈ t, c < 128 := by decide +kernel
theorem lit_f1 : ("RL" : Str) = cS [82, 76] := by decide +kernel
theorem lit_f2 : ("RL 0,0" : Str) = cS [82, 76, 32, 48, 44, 48] := by decide +kernel
theorem lit_f3 : ("RL ^" : Str) = cS [82, 76, 32, 94] := by decide +kernel
theorem lit_f4 : ("RL 0,0^ " : Str) = cS [82, 76, 32, 48, 44, 48, 94, 32] := by decide +kernel
theorem eRef_text : eRef "BadText" = .tuple [.str "refused", .str "text"] := by
  have e : wordOf "BadText" = ("text" : Str) := by decide +kernel
  unfold eRef
  rw [e]
section
variable {K : PySem.W.Frag} {t : Addr} {σ : L2.St} {S : Sit} {ta ti : TE} {b b1 : Nat} {w : Cs}
/-- text[i:], the number drawn in part -/
theorem en_slS {φ : Int → Prop} (ha : ∀ T, Same S.G T.G → EvD K ta σ T (.str (cS w))) (hi : EvN K t ti σ S b b1 (fun d => ∃ i, d = .int i ∧ φ i)) (h0 : ∀ i, φ i → 0 ≤ i) (hl : w.length ≤ 1000000) :
    EvN K t (L2.tSl rSlS ta (tPart ti) tNoPart) σ S b b1 (fun d => ∃ i : Int, φ i ∧ d = .str (cS (w.drop i.toNat))) := fun T l ht Q q =>
  ha T l.g T (Le.refl T) _ fun v U lU o => hi U (Lt.trans l (lU.lm _) ht.has) (ht.up lU) _ fun d x W hd lW tW ox => by
    have ev := Da.str_eq o
    subst ev
    obtain ⟨i, rfl, hφ⟩ := hd
    have ei := Da.int_eq ox
    subst ei
    refine ⟨i, rfl, _, rfl, sz (by rw [cS_len]; exact hl), ?_⟩
    rw [cut_fromS (h0 i hφ)]
    exact q _ _ W ⟨i, hφ, rfl⟩ (Lt.trans (lU.lm _) lW (ht.up lU).has) tW (Da.str _)
end
end MW

set_option Elab.async false
set_option linter.all false
set_option maxRecDepth 100000
set_option maxHeartbeats 4000000
namespace MW
open PySem PySem.Spec PyProof.Rows L2
local macro_rules | `(tactic| walk_at "ev") => `(tactic| first
  | (refine ev_var (by assumption) ?_; rfl)
  | (refine ev_varv (by assumption) ?_; rfl)
  | exact ev_ci
  | exact ev_cs
  | exact ev_cb
  | exact ev_cn
  | exact eb_yes
  | exact ea_nil
  | exact ea_d0
  | exact eo_none
  | (apply ea_cons <;> walk_at "ev")
  | (apply eo_some <;> walk_at "ev")
  | (apply ev_I0 <;> walk_at "ev")
  | (apply ev_B0 <;> walk_at "ev")
  | (apply ev_chain <;> walk_at "ev")
  | (apply ev_neg <;> walk_at "ev")
  | (apply ev_lenL <;> walk_at "ev")
  | (apply ev_lenT <;> walk_at "ev")
  | (apply eb_test <;> walk_at "ev")
  | (apply eb_B <;> walk_at "ev")
  | (apply eb_not <;> walk_at "ev")
  | (apply ev_notV <;> walk_at "ev")
  | (apply ev_tup <;> walk_at "ev")
  | (apply ea_ds <;> walk_at "ev")
  | (apply ev_ixT <;> walk_at "ev")
  | (apply ev_ixL <;> walk_at "ev")
  | (apply ev_eqD <;> walk_at "ev")
  | (apply ev_neD <;> walk_at "ev")
  | (apply ev_inS <;> walk_at "ev")
  | (apply ev_isN <;> walk_at "ev")
  | (apply ev_notN <;> walk_at "ev")
  | (apply ev_andV <;> walk_at "ev")
  | (apply ev_orV <;> walk_at "ev")
  | (apply eb_and <;> walk_at "ev")
  | (apply eb_or <;> walk_at "ev")
  | (apply ev_I <;> walk_at "ev")
  | (apply ev_lenS <;> walk_at "ev")
  | (apply ev_all <;> walk_at "ev")
  | (apply ev_any <;> walk_at "ev")
  | (intro _; walk_at "ev")
  | rfl
  | (with_reducible assumption)
  | decide
  | omega)
theorem sc_law : FnScope ["script", "town", "rule", "walker", "floor", "words", "text", "x", "y", "colour", "some", "k", "at", "sign", "due", "one"] ["script"] (defScope (top 34)) := ⟨rfl, rfl, rfl, by decide +kernel, rfl, by decide +kernel, by decide +kernel⟩
section
variable {P : Program} {w : World} {K : PySem.W.Frag} {mg : Str → Option Value} {base : Heap}
theorem k_law (T : Tx K mg) (D : Def K mg "law" (top 34)) (F__law_draw : FnK P w K mg base 3 "_law_draw" ["script", "town", "many"] (sp__law_draw K)) (F__law_pick : FnK P w K mg base 4 "_law_pick" ["script", "town", "some"] (sp__law_pick K)) (F__law_rule : FnK P w K mg base 5 "_law_rule" ["script", "town"] (sp__law_rule K)) (F__law_state : FnK P w K mg base 5 "_law_state" ["script", "town", "rule"] (sp__law_state K)) (F_written : FnK P w K mg base 3 "written" ["rule", "walker", "floor"] (sp_written K)) (F__law_told : FnK P w K mg base 5 "_law_told" ["text"] (sp_told40 K)) (F__law_read : FnK P w K mg base 2 "_law_read" ["text"] (sp__law_read K)) : FnK P w K mg base 6 "law" ["script"] (sp_law K) := by
  refine fn_mk D sc_law (fun vs H Q E h => ?_) (fun _ _ _ _ _ _ us hl => match us, hl with | [_], _ => rfl) (fun f cdv A outer s H vs Q E hr h => ?_)
  · obtain ⟨S, a, ns, rfl, hv, _⟩ := h
    exact hv.len
  obtain ⟨S, a, ns, rfl, hv, hs, hQ⟩ := h
  refine ⟨_, (pss_cons (ps_set (i := 1) sc_law.nd rfl (Or.inl rfl) (pe_lst pa_nil))
      (pss_cons (ps_set (i := 2) sc_law.nd rfl (Or.inl rfl) (pe_fn F__law_rule (hr.mono (by decide)) (passes_call (takes_of rfl rfl rfl rfl) (fun _ _ _ _ h => h)) (pa_cons (pv 0) (pa_cons (pv 1) pa_nil))))
      (pss_cons (ps_asg (pe_fn F__law_state (hr.mono (by decide)) (passes_call (takes_of rfl rfl rfl rfl) (fun _ _ _ _ h => h)) (pa_cons (pv 0) (pa_cons (pv 1) (pa_cons (pv 2) pa_nil)))) (kpg_tup (K := K) (n := 2) rfl (pgs_cons (pg_name (i := 3) sc_law.nd rfl (Or.inl rfl)) (pgs_cons (pg_name (i := 4) sc_law.nd rfl (Or.inl rfl)) pgs_nil))))
      (pss_cons (ps_set (i := 5) sc_law.nd rfl (Or.inl rfl) (pe_lst (pa_cons (pv 2) (pa_cons (pe_op op_add_str (kp_join (K := K) rfl pe_str (pe_lst (pa_cons (pe_callTy call_str_int (by rfl) T.str (by decide +kernel) (pa_cons (pe_ix (kx_tup (K := K)) (pv 3) pe_int (fun _ _ => rfl)) pa_nil)) (pa_cons (pe_callTy call_str_int (by rfl) T.str (by decide +kernel) (pa_cons (pe_ix (kx_tup (K := K)) (pv 3) pe_int (fun _ _ => rfl)) pa_nil)) pa_nil)))) (pe_ix ix_str pe_str (pe_ix (kx_tup (K := K)) (pv 3) pe_int (fun _ _ => rfl)) (fun _ _ => rfl))) pa_nil))))
      (pss_cons (ps_set (i := 6) sc_law.nd rfl (Or.inl rfl) (kp_join (K := K) rfl pe_str (pe_op op_cat (pv 5) (pe_lc (own := [("x", 7), ("y", 8), ("colour", 9)]) rfl sc_law.nd (kpi_list (K := K) (pv 4)) (blkOk_by (N := ["script", "town", "rule", "walker", "floor", "words", "text", "x", "y", "colour", "some", "k", "at", "sign", "due", "one"]) (sc := defScope (top 34)) (by decide +kernel)) (fun _ _ _ _ _ => (kpg_tup (K := K) (n := 3) rfl (pgs_cons (pg_name (i := 7) sc_law.nd rfl (Or.inl rfl)) (pgs_cons (pg_name (i := 8) sc_law.nd rfl (Or.inl rfl)) (pgs_cons (pg_name (i := 9) sc_law.nd rfl (Or.inl rfl)) pgs_nil))))) (fun _ _ _ _ _ => pts_nil) (fun _ _ _ _ _ => (pe_op op_add_str (pe_op op_add_str (kp_join (K := K) rfl pe_str (pe_lst (pa_cons (pe_callTy call_str_int (by rfl) T.str (by decide +kernel) (pa_cons (pv 7) pa_nil)) (pa_cons (pe_callTy call_str_int (by rfl) T.str (by decide +kernel) (pa_cons (pv 8) pa_nil)) pa_nil)))) pe_str) (pe_callTy call_str_int (by rfl) T.str (by decide +kernel) (pa_cons (pv 9) pa_nil))))))))
      (pss_cons (ps_if (PW.pt (pw_or (pt_cmpR (kr_neD (K := K) hr.units) (pe_fn F_written (hr.mono (by decide)) (passes_call (takes_of rfl rfl rfl rfl) (fun _ _ _ _ h => h)) (pa_cons (pv 2) (pa_cons (pv 3) (pa_cons (pv 4) pa_nil)))) (pv 6) (nomark _)) (pw_or1 (pt_cmpR (kr_neD (K := K) hr.units) (pe_fn F__law_told (hr.mono (by decide)) (passes_call (takes_of rfl rfl rfl rfl) (fun _ _ _ _ h => h)) (pa_cons (pv 6) pa_nil)) (pe_tup (pa_cons (pv 2) (pa_cons (pv 3) (pa_cons (pv 4) pa_nil)))) (nomark _))))) (pss_one (ps_ret pe_bl)) pss_nil)
      (pss_cons (ps_set (i := 10) sc_law.nd rfl (Or.inl rfl) pe_str)
      (pss_cons (ps_for (passes_of rfl) rfl (pi_range1 rfl T.range (pa_cons pe_int pa_nil)) (pg_name (i := 11) sc_law.nd rfl (Or.inl rfl)) (pss_cons (ps_set (i := 12) sc_law.nd rfl (Or.inl rfl) (pe_fn F__law_draw (hr.mono (by decide)) (passes_call (takes_of rfl rfl rfl rfl) (fun _ _ _ _ h => h)) (pa_cons (pv 0) (pa_cons (pv 1) (pa_cons (pe_op op_add (pe_callB (kr_len (K := K)) (by rfl) T.len (by decide +kernel) (pa_cons (pv 6) pa_nil)) pe_int) pa_nil)))))
      (pss_cons (ps_set (i := 13) sc_law.nd rfl (Or.inl rfl) (pe_fn F__law_pick (hr.mono (by decide)) (passes_call (takes_of rfl rfl rfl rfl) (fun _ _ _ _ h => h)) (pa_cons (pv 0) (pa_cons (pv 1) (pa_cons (pe_lst (pa_cons pe_str (pa_cons pe_str (pa_cons pe_str (pa_cons pe_str (pa_cons (pe_ix ix_str (pv 10) (pe_fn F__law_draw (hr.mono (by decide)) (passes_call (takes_of rfl rfl rfl rfl) (fun _ _ _ _ h => h)) (pa_cons (pv 0) (pa_cons (pv 1) (pa_cons (pe_callB (kr_len (K := K)) (by rfl) T.len (by decide +kernel) (pa_cons (pv 10) pa_nil)) pa_nil)))) (fun _ _ => rfl)) pa_nil)))))) pa_nil)))))
      (pss_cons (ps_set (i := 6) sc_law.nd rfl (Or.inl rfl) (pe_op op_add_str (pe_op op_add_str (pe_slice sl_str (pv 6) po_none (po_some (pv 12))) (pv 13)) (pe_slice sl_str (pv 6) (po_some (pe_op op_add (pv 12) (pe_fn F__law_draw (hr.mono (by decide)) (passes_call (takes_of rfl rfl rfl rfl) (fun _ _ _ _ h => h)) (pa_cons (pv 0) (pa_cons (pv 1) (pa_cons pe_int pa_nil)))))) po_none)))
      (pss_cons (ps_set (i := 14) sc_law.nd rfl (Or.inl rfl) (pe_fn F__law_read (hr.mono (by decide)) (passes_call (takes_of rfl rfl rfl rfl) (fun _ _ _ _ h => h)) (pa_cons (pv 6) pa_nil)))
      (pss_one (ps_if (pt_cmpR (kr_neD (K := K) hr.units) (pe_fn F__law_told (hr.mono (by decide)) (passes_call (takes_of rfl rfl rfl rfl) (fun _ _ _ _ h => h)) (pa_cons (pv 6) pa_nil)) (pe_ifExp (pt_cmpR op_notN (pv 14) pe_non (nomark _)) (pv 14) (pe_tup (pa_cons pe_str (pa_cons pe_str pa_nil)))) (nomark _)) (pss_one (ps_ret pe_bl)) pss_nil)))))))
      (pss_one (ps_ret (pe_cmpR (kr_eqD (K := K) hr.units) (pe_lc (own := [("one", 15)]) rfl sc_law.nd (kpi_tup (K := K) (pe_tup (pa_cons pe_str (pa_cons pe_str (pa_cons pe_str (pa_cons pe_str (pa_cons pe_str pa_nil))))))) (blkOk_by (N := ["script", "town", "rule", "walker", "floor", "words", "text", "x", "y", "colour", "some", "k", "at", "sign", "due", "one"]) (sc := defScope (top 34)) (by decide +kernel)) (fun _ _ _ _ _ => (pg_name (i := 15) sc_law.nd rfl (Or.inl rfl))) (fun _ _ _ _ _ => pts_nil) (fun _ _ _ _ _ => (pe_fn F__law_told (hr.mono (by decide)) passL (pa_cons (pv 15) pa_nil)))) (pe_op op_rep (pe_lst (pa_cons (pe_tup (pa_cons pe_str (pa_cons pe_str pa_nil))) pa_nil)) pe_int) (nomark _)))))))))))), ?_⟩
  have hE := Sv.start (N := ["script", "town", "rule", "walker", "floor", "words", "text", "x", "y", "colour", "some", "k", "at", "sign", "due", "one"]) (n := 15) hv rfl
  refine st_town0 (b := 800) hE (by decide) fun t σ1 T1 l1 t1 hE1 => ?_
  have hs1 := l1.g.seq hs
  clear hE
  dsimp only
  -- rule
  refine st_asgN (K := K) (b1 := 790) hE1 t1 (en_rule (b := 790) (fun T g => ea_cons (ev_varv (hE1.up g) rfl) (ea_cons (ev_varv (hE1.up g) rfl) ea_nil)) hs1) fun d2 σ2 T2 hd2 l2 t2 hE2 => ?_
  obtain ⟨r, rfl, hro⟩ := hd2
  have rl := ruleOk_len hro
  have hs2 := l2.g.seq hs1
  clear hE1
  dsimp only
  -- walker, floor
  refine st_asgGN (K := K) (b1 := 90) (is := fun d => match d with | .tuple [d1, d2] => [(3, d1), (4, d2)] | _ => []) hE2 t2 (en_state (b := 90) (fun T g => ea_cons (ev_varv (hE2.up g) rfl) (ea_cons (ev_varv (hE2.up g) rfl) (ea_cons (ev_var (hE2.up g) rfl) ea_nil))) hs2 hro) (fun d hd => by obtain ⟨x, y, h, fl, rfl, _⟩ := hd; exact tg_tup2) fun d3 σ3 T3 hd3 l3 t3 hE3 => ?_
  obtain ⟨wx, wy, wh, fl, rfl, hw, hfl⟩ := hd3
  obtain ⟨wk, ew, w1, w2, hh⟩ := wOk_at hw
  obtain ⟨e1, e2, e3⟩ : wx = wk.1 ∧ wy = wk.2.1 ∧ wh = wk.2.2 := by unfold w3 at ew; simpa using ew
  subst e1 e2 e3
  have hw : wOk (w3 wk) = true := hw
  obtain ⟨fl200, fg, frise⟩ := floorOk_at hfl
  have fcol : ∀ m ∈ fl, 0 ≤ m.2.2 ∧ m.2.2 < (r.length : Int) := fun m hm => by
    have z := fg m hm
    unfold markOk at z
    simp only [Bool.and_eq_true, decide_eq_true_eq] at z
    omega
  have fpos : ∀ m ∈ fl, 0 < m.2.2 := fun m hm => by
    have z := fg m hm
    unfold markOk at z
    simp only [Bool.and_eq_true, decide_eq_true_eq] at z
    omega
  have hs3 := l3.g.seq hs2
  clear hE2
  dsimp only at hE3 ⊢
  obtain ⟨rc, rfl⟩ : ∃ rc, r = cS rc := ⟨r.cps.toList, by simp [cS]⟩
  rw [cS_len] at rl fcol
  have hfl' : floorOk rc.length fl = true := by rw [cS_len] at hfl; exact hfl
  have fg' : ∀ m ∈ fl, markOk rc.length m = true := (floorOk_at hfl').2.1
  have hok : okRWF rc wk fl = true := by
    unfold okRWF
    rw [hro, hw, hfl']
    rfl
  have sx := strL_len w1
  have sy := strL_len w2
  have wo := words_ok hro hw hfl'
  have sm := sum_le wo
  have wl43 := wrL_len hro hw hfl'
  have hE3 : Sv K T3.G σ3 [.v (.ref a), .v (.ref t), .d (.str (cS rc)), .d (eW3 wk), .d (eF fl), .non, .non, .non, .non, .non, .non, .non, .non, .non, .non, .non] := hE3
  -- words
  refine st_asg (s := .d (.list [.str (cS rc), .str (cS (wkL wk))])) hE3 (ev_lst (ea_ds (ev_var hE3 rfl) (ea_ds (ev_addC (a := plL (plW wk)) (b := [hdC wk.2.2]) (ev_is (ev_joinC (ws := [strL wk.1, strL wk.2.1]) (ev_lit lit_comma) (ev_lst (ea_ds (ev_strL (ev_ixT (ds := [.int wk.1, .int wk.2.1, .int wk.2.2]) (ev_var hE3 rfl) ev_ci rfl) w1) (ea_ds (ev_strL (ev_ixT (ds := [.int wk.1, .int wk.2.1, .int wk.2.2]) (ev_var hE3 rfl) ev_ci rfl) w2) ea_d0)) (by show 2 ≤ _; decide)) (by simp only [List.map_cons, List.map_nil, List.sum_cons, List.sum_nil, List.length_cons, List.length_nil]; omega)) (by unfold plL plW; simp [TL.joinL])) (ev_ixS (z := cS hdL) (ev_lit lit_hd) (ev_ixT (ds := [.int wk.1, .int wk.2.1, .int wk.2.2]) (ev_var hE3 rfl) ev_ci rfl) (hd_at hh.1 hh.2) (by decide)) (by unfold plL plW; simp only [List.length_append, List.length_cons, List.length_nil]; omega)) ea_d0)) (by show 2 ≤ _; decide)) fun σ4 T4 l4 hE4 => ?_
  have hs4 := l4.g.seq hs3
  have t4 := t3.up l4
  clear hE3
  dsimp only
  -- text
  refine st_asg (s := .d (.str (cS (wrL rc wk fl)))) hE4 ?_ fun σ5 T5 l5 hE5 => ?_
  · refine ev_joinC (ws := rc :: wkL wk :: fl.map mkL) (ev_lit lit_blank) (ev_is (ev_cat (xs := [.str (cS rc), .str (cS (wkL wk))]) (ys := fl.map fun m => .str (cS (mkL m))) (ev_var hE4 rfl) ?_ (by rw [List.length_map]; show 2 + _ ≤ _; omega)) ?_) (by simp only [List.length_cons, List.length_map, List.length_nil] at sm ⊢; omega)
    · refine ev_lcm (xs := fl) (enc := eM) hE4 (ei_list (ev_var hE4 rfl)) (fun m => [(7, .int m.1), (8, .int m.2.1), (9, .int m.2.2)]) _ (fun m _ => tg_tup3) (fun m _ q hq => by simp at hq; rcases hq with rfl | rfl | rfl <;> simp) (fun m hm σ' T' l' hE' => ?_) (by omega)
      obtain ⟨⟨m1, m2⟩, m3, m4⟩ := mark_at (fg' m hm)
      have s1 : (strL m.1).length ≤ 4 := strL_len m1
      have s2 : (strL m.2.1).length ≤ 4 := strL_len m2
      have m5 : -100 ≤ m.2.2 ∧ m.2.2 ≤ 100 := by omega
      have s3 := strL_len m5
      exact ev_is (ev_addC (a := plL (plOf m) ++ [58]) (ev_addC (a := plL (plOf m)) (ev_is (ev_joinC (ws := [strL m.1, strL m.2.1]) (ev_lit lit_comma) (ev_lst (ea_ds (ev_strL (ev_var hE' rfl) m1) (ea_ds (ev_strL (ev_var hE' rfl) m2) ea_d0)) (by show 2 ≤ _; decide)) (by simp only [List.map_cons, List.map_nil, List.sum_cons, List.sum_nil, List.length_cons, List.length_nil]; omega)) (by unfold plL plOf; simp [TL.joinL])) (ev_lit lit_colon) (by unfold plL plOf; simp only [List.length_append, List.length_cons, List.length_nil]; omega)) (ev_strL (ev_var hE' rfl) m5) (by unfold plL plOf; simp only [List.length_append, List.length_cons, List.length_nil]; omega)) (by unfold mkL; simp)
    · unfold eTs
      simp [List.map_map, Function.comp_def]
  have hs5 := l5.g.seq hs4
  have t5 := t4.up l5
  clear hE4
  dsimp only
  have asc := wr_ascii hro hw hfl'
  have law1 := lawR_wr hok
  have told1 : told40 (wrL rc wk fl) = eRWF (rc, wk, fl) := by
    unfold told40
    rw [law1]
  have shr : Shp 3 (eRWF (rc, wk, fl)) := shp_rwf (x := (rc, wk, fl)) hok
  have hz : Sz (cS rc) (w3 wk) fl := ⟨by rw [cS_len]; omega, by show 3 ≤ _; decide, by omega⟩
  apply st_if (K := K) (b := false)
  case hb =>
    refine eb_is (eb_or (a := false) (b := false) (eb_test (ev_is (ev_neD (ev_written (ea_cons (ev_var hE5 rfl) (ea_cons (ev_var hE5 rfl) (ea_cons (ev_var hE5 rfl) ea_nil))) hz (bad3_ok.mpr hok)) (ev_var hE5 rfl) ((shp_cs asc).to (by decide)) ((shp_cs asc).to (by decide))) (by rw [eqv_self (shp_cs asc)]; rfl))) fun _ => eb_test (ev_is (ev_neD (d := eRWF (rc, wk, fl)) (e := eRWF (rc, wk, fl)) (ev_is (ev_told40 (ea_cons (ev_var hE5 rfl) ea_nil) (by omega) asc) told1) (ev_tup (ds := [.str (cS rc), eW3 wk, eF fl]) (ea_ds (ev_var hE5 rfl) (ea_ds (ev_var hE5 rfl) (ea_ds (ev_var hE5 rfl) ea_d0))) (by show 3 ≤ _; decide)) (shr.to (by decide)) (shr.to (by decide))) (by rw [eqv_self shr]; rfl))) rfl
  case h1 => exact fun e => nomatch e
  intro _ T6 l6
  have hs6 := l6.g.seq hs5
  have t6 := t5.up l6
  have hE6 := hE5.up l6.g
  clear hE5
  dsimp only [tNext]
  -- some
  refine st_asg (s := .d (.str (cS someL))) hE6 (ev_lit lit_some) fun σ7 T7 l7 hE7 => ?_
  have hs7 := l7.g.seq hs6
  have t7 := t6.up l7
  clear hE6
  dsimp only
  have rg : EvI K (iRng1 (tCons (tC (.int 2)) tNil)) σ7 T7 (rngD 0 2) := ei_rng1 (j := 2) (ea_cons ev_ci ea_nil) (by decide) (by decide)
  apply st_for rg (fun _ k σ' T => ∃ u : Cs, u.length ≤ 4300 + k ∧ (∀ c ∈ u, c < 128) ∧ u.count 32 ≤ 201 + k ∧ Town T t (90 - 4 * k) ∧ SqL K T.G a (ns.map V.int) ∧ Sv K T.G σ' [.v (.ref a), .v (.ref t), .non, .non, .non, .non, .d (.str (cS u)), .non, .non, .non, .d (.str (cS someL)), .non, .non, .non, .non, .non])
  case h0 => exact fun U l => ⟨wrL rc wk fl, by omega, asc, wr_count hok, t7.up l, l.g.seq hs7, ((((hE7.up l.g).forget 2).forget 3).forget 4).forget 5⟩
  case hs =>
    intro U k d σ' T' v lU hk hG hI hv'
    obtain ⟨u, ul, uc, un, tI, sI, hEI⟩ := hI
    obtain ⟨hk1, rfl⟩ := rngD_get hk
    refine tg_name v σ' T' _ hv' fun σ8 hE8 _ => ?_
    have hE8 := hE8 _ hEI
    have tI : Town T' t ((90 - 4 * (k + 1)) + 4) := by
      have e : 90 - 4 * k = (90 - 4 * (k + 1)) + 4 := by omega
      rw [e] at tI
      exact tI
    generalize 90 - 4 * (k + 1) = B at tI ⊢
    -- at
    refine st_asgN (K := K) (b1 := B + 3) hE8 tI (en_draw (b := B + 3) (many := ((u.length : Nat) : Int) + 1) (fun T g => ea_cons (ev_varv (hE8.up g) rfl) (ea_cons (ev_varv (hE8.up g) rfl) (ea_cons (ev_I0 (ev_is (ev_lenS (ev_var (hE8.up g) rfl) (by rw [cS_len]; omega)) (by rw [cS_len])) ev_ci) ea_nil))) sI (by omega)) fun d9 σ9 T9 hd9 l9 t9 hE9 => ?_
    obtain ⟨i, rfl, i0, i1⟩ := hd9
    have s9 := l9.g.seq sI
    clear hE8
    dsimp only
    -- sign
    refine st_asgN (K := K) (b1 := B + 1) (Φ := fun d => ∃ sg : Cs, d = .str (cS sg) ∧ sg.length ≤ 1 ∧ ∀ c ∈ sg, c < 128) hE9 t9 (en_imp (en_pickD (b1 := B + 1) (Ψ := fun ds => ∃ c ∈ someL, ds = [.str (cS []), .str (cS []), .str (cS [48]), .str (cS [45]), .str (cS [c])]) hE9 rfl rfl (en_imp (en_lst (en_cons (en_pure fun T g => ev_lit lit_empty) (en_cons (en_pure fun T g => ev_lit lit_empty) (en_cons (en_pure fun T g => ev_lit lit_zero) (en_cons (en_pure fun T g => ev_lit lit_minus) (en_cons (Φ := fun d => ∃ c ∈ someL, d = .str (cS [c])) (en_b (fun x y => tOp rIxS x y) (fun _ _ _ _ _ => rfl) (en_pure fun T g => ev_var (hE9.up g) rfl) (en_draw (b := B + 2) (many := 32) (fun T g => ea_cons (ev_varv (hE9.up g) rfl) (ea_cons (ev_varv (hE9.up g) rfl) (ea_cons (ev_is (ev_lenS (ev_var (hE9.up g) rfl) (by decide)) rfl) ea_nil))) s9 (by decide)) fun d e hd he => ?_) en_nil))))) ?_) ?_) ?_ s9) ?_) fun d10 σ10 T10 hd10 l10 t10 hE10 => ?_
    · subst hd
      obtain ⟨j, rfl, j0, j1⟩ := he
      obtain ⟨c, hc, hcat⟩ := some_at j0 j1
      exact ⟨_, ⟨c, hc, rfl⟩, fun x y T _ hx hy => ev_ixS (z := cS someL) hx hy hcat (by decide)⟩
    · rintro ds ⟨_, ds1, rfl, _, _, ds2, rfl, _, _, ds3, rfl, _, _, ds4, rfl, _, _, ds5, rfl, _, rfl⟩
      show 5 ≤ _
      decide
    · rintro d ⟨ds, rfl, _, ds1, rfl, rfl, _, ds2, rfl, rfl, _, ds3, rfl, rfl, _, ds4, rfl, rfl, _, ds5, rfl, ⟨c, hc, rfl⟩, rfl⟩
      exact ⟨_, rfl, c, hc, rfl⟩
    · rintro ds ⟨c, _, rfl⟩
      show 0 < 5
      decide
    · rintro d ⟨ds, ⟨c, hc, rfl⟩, hd⟩
      simp only [List.mem_cons, List.mem_nil_iff, or_false] at hd
      rcases hd with rfl | rfl | rfl | rfl | rfl
      · exact ⟨[], rfl, by decide, by decide⟩
      · exact ⟨[], rfl, by decide, by decide⟩
      · exact ⟨[48], rfl, by decide, by decide⟩
      · exact ⟨[45], rfl, by decide, by decide⟩
      · exact ⟨[c], rfl, Nat.le_refl _, fun z hz => by rw [List.mem_singleton.mp hz]; exact some_lt c hc⟩
    obtain ⟨sg, rfl, sl, sc⟩ := hd10
    have s10 := l10.g.seq s9
    clear hE9
    dsimp only
    -- text
    refine st_asgN (K := K) (b1 := B) (Φ := fun d => ∃ j : Nat, i.toNat ≤ j ∧ d = .str (cS (bent u sg i.toNat j))) hE10 t10 (en_b (fun x y => tOp rAddS x y) (fun _ _ _ _ _ => rfl) (en_pure (d := .str (cS (u.take i.toNat ++ sg))) fun T g => ev_addC (ev_is (ev_slS (ev_var (hE10.up g) rfl) eo_none (eo_some (ev_var (hE10.up g) rfl)) (by rw [cS_len]; omega)) (by rw [cut_toS i0])) (ev_var (hE10.up g) rfl) (by rw [List.length_take]; omega)) (en_slS (φ := fun j => i ≤ j) (w := u) (fun T g => ev_var (hE10.up g) rfl) (en_imp (en_I0 (φ := fun j => j = i) (ψ := fun j => 0 ≤ j) (χ := fun j => i ≤ j) (en_imp (en_pure fun T g => ev_var (hE10.up g) rfl) fun d hd => ⟨i, hd, rfl⟩) (en_imp (en_draw (b := B) (many := 2) (fun T g => ea_cons (ev_varv (hE10.up g) rfl) (ea_cons (ev_varv (hE10.up g) rfl) (ea_cons ev_ci ea_nil))) s10 (by decide)) fun d hd => let ⟨j, e, h, _⟩ := hd; ⟨j, e, h⟩) fun i' j h1 h2 => by subst h1; show i' ≤ i' + j; omega) fun d hd => hd) (fun j hj => by have : i ≤ j := hj; omega) (by omega)) fun d e hd he => ?_) fun d11 σ11 T11 hd11 l11 t11 hE11 => ?_
    · subst hd
      obtain ⟨j, hj, rfl⟩ := he
      have hj : i ≤ j := hj
      exact ⟨_, ⟨j.toNat, by omega, rfl⟩, fun x y T _ hx hy => ev_addC hx hy (by simp only [List.length_append, List.length_take, List.length_drop]; omega)⟩
    obtain ⟨j, hij, rfl⟩ := hd11
    have s11 := l11.g.seq s10
    clear hE10
    dsimp only
    have bl := bent_len (t := u) hij sl
    have bc := bent_mem (i := i.toNat) (j := j) uc sc
    have bn := bent_count (t := u) (c := 32) hij sl
    generalize bent u sg i.toNat j = u' at bl bc bn hE11
    -- due
    refine st_asg (s := .d (told40N u')) hE11 (ev_read40 (ea_cons (ev_var hE11 rfl) ea_nil) (by omega) bc (by omega)) fun σ12 T12 l12 hE12 => ?_
    clear hE11
    dsimp only
    have sh := shp_told40 u'
    apply st_if (K := K) (b := false)
    case hb =>
      refine eb_test (ev_is (ev_neD (d := told40 u') (e := told40 u') (ev_told40 (ea_cons (ev_var hE12 rfl) ea_nil) (by omega) bc) (ev_if (b := !isNone (told40N u')) (eb_test (ev_notN (ev_var hE12 rfl))) (fun e => ?_) fun e => ?_) (sh.to (by decide)) (sh.to (by decide))) (by rw [eqv_self sh]; rfl))
      · rw [told40_N, not_t e]
        exact ev_var hE12 rfl
      · rw [told40_N, not_f e, if_pos rfl, eRef_text]
        exact ev_tup (ds := [.str "refused", .str "text"]) (ea_ds ev_cs (ea_ds ev_cs ea_d0)) (by show 2 ≤ _; decide)
    case h1 => exact fun e => nomatch e
    intro _ T13 l13
    have l23 := l12.trans l13
    exact ⟨T13, rfl, ((l9.g.trans l10.g).trans l11.g).trans l23.g, u', by omega, bc, by omega, t11.up l23, l23.g.seq s11, ((((hE12.up l13.g).forget 11).forget 12).forget 13).forget 14⟩
  case hd =>
    intro U σ' T' lU hG hI
    obtain ⟨u, ul, uc, un, tI, sI, hEI⟩ := hI
    dsimp only
    have shB : Shp 1 (eRef "BadText") := shp_ref (by decide)
    have shL : Shp 2 (.list (fiveL.map fun _ => eRef "BadText")) := shp_list fun d hd => by
      obtain ⟨_, _, rfl⟩ := List.mem_map.mp hd
      exact shB
    refine st_ret (K := K) (s := .d (.bool true)) (ev_is (ev_eqD (d := .list (fiveL.map fun _ => eRef "BadText")) (e := .list (fiveL.map fun _ => eRef "BadText")) (ev_lcm (xs := fiveL) (enc := fun p => .str (cS p)) hEI (ei_tup (ev_tup (ds := fiveL.map fun p => .str (cS p)) (ea_ds (ev_lit lit_empty) (ea_ds (ev_lit lit_f1) (ea_ds (ev_lit lit_f2) (ea_ds (ev_lit lit_f3) (ea_ds (ev_lit lit_f4) ea_d0))))) (by decide))) (fun p => [(15, .str (cS p))]) _ (fun p _ => tg_name) (fun p _ q hq => by simp at hq; subst hq; simp) (fun p hp σ'' T'' l'' hE' => ?_) (by decide)) (ev_is (ev_rep (ds := [eRef "BadText"]) (n := 5) (ev_lst (ea_ds ?_ ea_d0) (by show 1 ≤ _; decide)) ev_ci (by decide) (by decide) (by decide)) rfl) (shL.to (by decide)) (shL.to (by decide))) (by rw [eqv_self shL])) fun v T14 l14 o => ?_
    · obtain ⟨n1, n2, n3⟩ := five_none p hp
      refine ev_is (ev_told40 (t := p) (ea_cons (ev_var hE' rfl) ea_nil) n2 n3) ?_
      unfold told40
      rw [n1]
    · rw [eRef_text]
      exact ev_tup (ds := [.str "refused", .str "text"]) (ea_ds ev_cs (ea_ds ev_cs ea_d0)) (by show 2 ≤ _; decide)
    · have ev := Da.bl_eq o
      subst ev
      exact hQ _
end

end MW

set_option Elab.async false
set_option linter.all false
set_option maxRecDepth 100000
set_option maxHeartbeats 0
namespace MW
open PySem PySem.Spec PyProof.Rows L2
def d_look_rule : He.DefD := ⟨("look_rule", none), "look_rule", "look_rule", defArgs (top 11), defBody (top 11), defScope (top 11), [], []⟩
def d_look_walker : He.DefD := ⟨("look_walker", none), "look_walker", "look_walker", defArgs (top 12), defBody (top 12), defScope (top 12), [], []⟩
def d_look_floor : He.DefD := ⟨("look_floor", none), "look_floor", "look_floor", defArgs (top 13), defBody (top 13), defScope (top 13), [], []⟩
def d_look_all : He.DefD := ⟨("look_all", none), "look_all", "look_all", defArgs (top 14), defBody (top 14), defScope (top 14), [], []⟩
def d_written : He.DefD := ⟨("written", none), "written", "written", defArgs (top 18), defBody (top 18), defScope (top 18), [], []⟩
def d_number_in : He.DefD := ⟨("number_in", none), "number_in", "number_in", defArgs (top 19), defBody (top 19), defScope (top 19), [], []⟩
def d_place_in : He.DefD := ⟨("place_in", none), "place_in", "place_in", defArgs (top 20), defBody (top 20), defScope (top 20), [], []⟩
def d_mark_in : He.DefD := ⟨("mark_in", none), "mark_in", "mark_in", defArgs (top 21), defBody (top 21), defScope (top 21), [], []⟩
def d_read : He.DefD := ⟨("read", none), "read", "read", defArgs (top 22), defBody (top 22), defScope (top 22), [], []⟩
def d__law_cell : He.DefD := ⟨("_law_cell", none), "_law_cell", "_law_cell", defArgs (top 24), defBody (top 24), defScope (top 24), [], []⟩
def d__law_mix : He.DefD := ⟨("_law_mix", none), "_law_mix", "_law_mix", defArgs (top 25), defBody (top 25), defScope (top 25), [], []⟩
def d__law_draw : He.DefD := ⟨("_law_draw", none), "_law_draw", "_law_draw", defArgs (top 26), defBody (top 26), defScope (top 26), [], []⟩
def d__law_pick : He.DefD := ⟨("_law_pick", none), "_law_pick", "_law_pick", defArgs (top 27), defBody (top 27), defScope (top 27), [], []⟩
def d__law_refusal : He.DefD := ⟨("_law_refusal", none), "_law_refusal", "_law_refusal", defArgs (top 28), defBody (top 28), defScope (top 28), [], []⟩
def d__law_rule : He.DefD := ⟨("_law_rule", none), "_law_rule", "_law_rule", defArgs (top 29), defBody (top 29), defScope (top 29), [], []⟩
def d__law_state : He.DefD := ⟨("_law_state", none), "_law_state", "_law_state", defArgs (top 30), defBody (top 30), defScope (top 30), [], []⟩
def d__law_told : He.DefD := ⟨("_law_told", none), "_law_told", "_law_told", defArgs (top 31), defBody (top 31), defScope (top 31), [], []⟩
def d__law_place : He.DefD := ⟨("_law_place", none), "_law_place", "_law_place", defArgs (top 32), defBody (top 32), defScope (top 32), [], []⟩
def d__law_read : He.DefD := ⟨("_law_read", none), "_law_read", "_law_read", defArgs (top 33), defBody (top 33), defScope (top 33), [], []⟩
def d_law : He.DefD := ⟨("law", none), "law", "law", defArgs (top 34), defBody (top 34), defScope (top 34), [], []⟩
def fn : List He.DefD := [d_look_rule, d_look_walker, d_look_floor, d_look_all, d_written, d_number_in, d_place_in, d_mark_in, d_read, d__law_cell, d__law_mix, d__law_draw, d__law_pick, d__law_refusal, d__law_rule, d__law_state, d__law_told, d__law_place, d__law_read, d_law]
def fa : List He.Fa := [.glo "look_rule", .glo "look_walker", .glo "look_floor", .glo "look_all", .glo "written", .glo "number_in", .glo "place_in", .glo "mark_in", .glo "read", .glo "_law_cell", .glo "_law_mix", .glo "_law_draw", .glo "_law_pick", .glo "_law_refusal", .glo "_law_rule", .glo "_law_state", .glo "_law_told", .glo "_law_place", .glo "_law_read", .glo "law", .glo "MarkError", .glo "BadRule", .glo "BadFloor", .glo "BadWalker", .glo "BadNumber", .glo "BadText", .str "SIGNS" "LNRU", .int "FAR" 100, .int "MOST_MARKS" 200, .str "HEADINGS" "^>v<", .str "FIGURES" "0123456789", .exc "MarkError", .exc "BadRule", .exc "BadFloor", .exc "BadWalker", .exc "BadNumber", .exc "BadText", .free "len", .free "all", .free "any", .free "sorted", .free "set", .free "range", .free "list", .free "tuple", .free "min", .free "max", .free "str", .free "int", .free "isinstance", .free "dict", .free "abs", .free "ValueError", .free "bool"]
def ts : List He.Tab := []
def ex (K : PySem.W.Frag) : Bool := kitsB K
abbrev R : PySem.W.OpenRow := PySem.W.OpenLaw.row PySem.Challenge.rw_markwalkers_k40_whole_texts
abbrev hk : PySem.W.Hook := He.hookX 5 fa fn ts [] ex
def ob (s : PySem.W.SharedT) : He.AlX := He.obsX 5 fa fn ts [] ex (HandSHeadRun.getT s)
theorem ob_eq (s : PySem.W.SharedT) : ob s = hk.obs s.abs := He.obsX_eq (HandSHeadRun.getT_eq s)

def nm0 : List PySem.Str := ["look_rule", "look_walker", "look_floor", "look_all", "written", "number_in", "place_in", "mark_in", "read", "_law_cell", "_law_mix", "_law_draw", "_law_pick", "_law_refusal", "_law_rule", "_law_state", "_law_told", "_law_place", "_law_read", "MarkError", "BadRule", "BadFloor", "BadWalker", "BadNumber", "BadText", "SIGNS", "FAR", "MOST_MARKS", "HEADINGS", "FIGURES"]
def nms : List PySem.Str := nm0
theorem run0 (w : World) : HandSHeadRun.RunEq R (PySem.W.view R.prog [34]) hk ob 4000 nms (w.withFollow "special-get-raises" false) := by
  intro os
  kernel_rfl
theorem run1 (w : World) : HandSHeadRun.RunEq R (PySem.W.view R.prog [34]) hk ob 4000 nms (w.withFollow "special-get-raises" true) := by
  intro os
  kernel_rfl
theorem run (w : World) : HandSHeadRun.RunEq R (PySem.W.view R.prog [34]) hk ob 4000 nms w :=
  PySem.W.byRow2 "special-get-raises" (P := fun w => HandSHeadRun.RunEq R (PySem.W.view R.prog [34]) hk ob 4000 nms w) run0 run1 w
theorem tx {w : World} {K : PySem.W.Frag} {h : Heap} {mg : Str → Option Value} (X : K.In h) (G : h.Ns mainGlobals mg) (c : He.SaysX fa fn ts [] ex w h K) : Tx K mg :=
  ⟨He.free_ok X G (c.t.d.fact 37 (f := .free "len") rfl),
   He.free_ok X G (c.t.d.fact 38 (f := .free "all") rfl),
   He.free_ok X G (c.t.d.fact 39 (f := .free "any") rfl),
   He.free_ok X G (c.t.d.fact 40 (f := .free "sorted") rfl),
   He.free_ok X G (c.t.d.fact 41 (f := .free "set") rfl),
   He.free_ok X G (c.t.d.fact 42 (f := .free "range") rfl),
   He.free_ok X G (c.t.d.fact 43 (f := .free "list") rfl),
   He.free_ok X G (c.t.d.fact 44 (f := .free "tuple") rfl),
   He.free_ok X G (c.t.d.fact 45 (f := .free "min") rfl),
   He.free_ok X G (c.t.d.fact 46 (f := .free "max") rfl),
   He.free_ok X G (c.t.d.fact 47 (f := .free "str") rfl),
   He.free_ok X G (c.t.d.fact 48 (f := .free "int") rfl),
   He.free_ok X G (c.t.d.fact 49 (f := .free "isinstance") rfl),
   He.free_ok X G (c.t.d.fact 50 (f := .free "dict") rfl),
   He.free_ok X G (c.t.d.fact 51 (f := .free "abs") rfl),
   He.free_ok X G (c.t.d.fact 52 (f := .free "ValueError") rfl),
   He.free_ok X G (c.t.d.fact 53 (f := .free "bool") rfl),
   He.str_ok X G (c.t.d.fact 26 (f := .str "SIGNS" "LNRU") rfl),
   He.int_ok X G (c.t.d.fact 27 (f := .int "FAR" 100) rfl),
   He.int_ok X G (c.t.d.fact 28 (f := .int "MOST_MARKS" 200) rfl),
   He.str_ok X G (c.t.d.fact 29 (f := .str "HEADINGS" "^>v<") rfl),
   He.str_ok X G (c.t.d.fact 30 (f := .str "FIGURES" "0123456789") rfl),
   xc_of X G (c.t.d.fact 20 (f := .glo "MarkError") rfl) (c.t.d.fact 31 (f := .exc "MarkError") rfl),
   xc_of X G (c.t.d.fact 21 (f := .glo "BadRule") rfl) (c.t.d.fact 32 (f := .exc "BadRule") rfl),
   xc_of X G (c.t.d.fact 22 (f := .glo "BadFloor") rfl) (c.t.d.fact 33 (f := .exc "BadFloor") rfl),
   xc_of X G (c.t.d.fact 23 (f := .glo "BadWalker") rfl) (c.t.d.fact 34 (f := .exc "BadWalker") rfl),
   xc_of X G (c.t.d.fact 24 (f := .glo "BadNumber") rfl) (c.t.d.fact 35 (f := .exc "BadNumber") rfl),
   xc_of X G (c.t.d.fact 25 (f := .glo "BadText") rfl) (c.t.d.fact 36 (f := .exc "BadText") rfl),
   kits_of c.more⟩
section
variable {w : World} {K : PySem.W.Frag} {h : Heap} {mg : Str → Option Value} (X : K.In h) (G : h.Ns mainGlobals mg) (c : He.SaysX fa fn ts [] ex w h K)
include X G c
theorem D_look_rule : Def K mg "look_rule" (top 11) := by
  obtain ⟨fd, F⟩ := c.t.d.def_ 0 (d := d_look_rule) rfl
  exact ⟨_, fd, F, He.glo_ok X G (c.t.d.fact 0 (f := .glo "look_rule") rfl)⟩
theorem D_look_walker : Def K mg "look_walker" (top 12) := by
  obtain ⟨fd, F⟩ := c.t.d.def_ 1 (d := d_look_walker) rfl
  exact ⟨_, fd, F, He.glo_ok X G (c.t.d.fact 1 (f := .glo "look_walker") rfl)⟩
theorem D_look_floor : Def K mg "look_floor" (top 13) := by
  obtain ⟨fd, F⟩ := c.t.d.def_ 2 (d := d_look_floor) rfl
  exact ⟨_, fd, F, He.glo_ok X G (c.t.d.fact 2 (f := .glo "look_floor") rfl)⟩
theorem D_look_all : Def K mg "look_all" (top 14) := by
  obtain ⟨fd, F⟩ := c.t.d.def_ 3 (d := d_look_all) rfl
  exact ⟨_, fd, F, He.glo_ok X G (c.t.d.fact 3 (f := .glo "look_all") rfl)⟩
theorem D_written : Def K mg "written" (top 18) := by
  obtain ⟨fd, F⟩ := c.t.d.def_ 4 (d := d_written) rfl
  exact ⟨_, fd, F, He.glo_ok X G (c.t.d.fact 4 (f := .glo "written") rfl)⟩
theorem D_number_in : Def K mg "number_in" (top 19) := by
  obtain ⟨fd, F⟩ := c.t.d.def_ 5 (d := d_number_in) rfl
  exact ⟨_, fd, F, He.glo_ok X G (c.t.d.fact 5 (f := .glo "number_in") rfl)⟩
theorem D_place_in : Def K mg "place_in" (top 20) := by
  obtain ⟨fd, F⟩ := c.t.d.def_ 6 (d := d_place_in) rfl
  exact ⟨_, fd, F, He.glo_ok X G (c.t.d.fact 6 (f := .glo "place_in") rfl)⟩
theorem D_mark_in : Def K mg "mark_in" (top 21) := by
  obtain ⟨fd, F⟩ := c.t.d.def_ 7 (d := d_mark_in) rfl
  exact ⟨_, fd, F, He.glo_ok X G (c.t.d.fact 7 (f := .glo "mark_in") rfl)⟩
theorem D_read : Def K mg "read" (top 22) := by
  obtain ⟨fd, F⟩ := c.t.d.def_ 8 (d := d_read) rfl
  exact ⟨_, fd, F, He.glo_ok X G (c.t.d.fact 8 (f := .glo "read") rfl)⟩
theorem D__law_cell : Def K mg "_law_cell" (top 24) := by
  obtain ⟨fd, F⟩ := c.t.d.def_ 9 (d := d__law_cell) rfl
  exact ⟨_, fd, F, He.glo_ok X G (c.t.d.fact 9 (f := .glo "_law_cell") rfl)⟩
theorem D__law_mix : Def K mg "_law_mix" (top 25) := by
  obtain ⟨fd, F⟩ := c.t.d.def_ 10 (d := d__law_mix) rfl
  exact ⟨_, fd, F, He.glo_ok X G (c.t.d.fact 10 (f := .glo "_law_mix") rfl)⟩
theorem D__law_draw : Def K mg "_law_draw" (top 26) := by
  obtain ⟨fd, F⟩ := c.t.d.def_ 11 (d := d__law_draw) rfl
  exact ⟨_, fd, F, He.glo_ok X G (c.t.d.fact 11 (f := .glo "_law_draw") rfl)⟩
theorem D__law_pick : Def K mg "_law_pick" (top 27) := by
  obtain ⟨fd, F⟩ := c.t.d.def_ 12 (d := d__law_pick) rfl
  exact ⟨_, fd, F, He.glo_ok X G (c.t.d.fact 12 (f := .glo "_law_pick") rfl)⟩
theorem D__law_refusal : Def K mg "_law_refusal" (top 28) := by
  obtain ⟨fd, F⟩ := c.t.d.def_ 13 (d := d__law_refusal) rfl
  exact ⟨_, fd, F, He.glo_ok X G (c.t.d.fact 13 (f := .glo "_law_refusal") rfl)⟩
theorem D__law_rule : Def K mg "_law_rule" (top 29) := by
  obtain ⟨fd, F⟩ := c.t.d.def_ 14 (d := d__law_rule) rfl
  exact ⟨_, fd, F, He.glo_ok X G (c.t.d.fact 14 (f := .glo "_law_rule") rfl)⟩
theorem D__law_state : Def K mg "_law_state" (top 30) := by
  obtain ⟨fd, F⟩ := c.t.d.def_ 15 (d := d__law_state) rfl
  exact ⟨_, fd, F, He.glo_ok X G (c.t.d.fact 15 (f := .glo "_law_state") rfl)⟩
theorem D__law_told : Def K mg "_law_told" (top 31) := by
  obtain ⟨fd, F⟩ := c.t.d.def_ 16 (d := d__law_told) rfl
  exact ⟨_, fd, F, He.glo_ok X G (c.t.d.fact 16 (f := .glo "_law_told") rfl)⟩
theorem D__law_place : Def K mg "_law_place" (top 32) := by
  obtain ⟨fd, F⟩ := c.t.d.def_ 17 (d := d__law_place) rfl
  exact ⟨_, fd, F, He.glo_ok X G (c.t.d.fact 17 (f := .glo "_law_place") rfl)⟩
theorem D__law_read : Def K mg "_law_read" (top 33) := by
  obtain ⟨fd, F⟩ := c.t.d.def_ 18 (d := d__law_read) rfl
  exact ⟨_, fd, F, He.glo_ok X G (c.t.d.fact 18 (f := .glo "_law_read") rfl)⟩
theorem D_law : Def K mg "law" (top 34) := by
  obtain ⟨fd, F⟩ := c.t.d.def_ 19 (d := d_law) rfl
  exact ⟨_, fd, F, He.glo_ok X G (c.t.d.fact 19 (f := .glo "law") rfl)⟩
theorem all_ok (base : Heap) : FnK (PySem.Challenge.rw_markwalkers_k40_whole_texts).prog w K mg base 6 "law" ["script"] (sp_law K) := by
  have T := tx X G c
  have F_look_rule := k_look_rule (P := (PySem.Challenge.rw_markwalkers_k40_whole_texts).prog) (w := w) (base := base) T (D_look_rule X G c)
  have F_look_walker := k_look_walker (P := (PySem.Challenge.rw_markwalkers_k40_whole_texts).prog) (w := w) (base := base) T (D_look_walker X G c)
  have F_look_floor := k_look_floor (P := (PySem.Challenge.rw_markwalkers_k40_whole_texts).prog) (w := w) (base := base) T (D_look_floor X G c)
  have F__law_cell := k__law_cell (P := (PySem.Challenge.rw_markwalkers_k40_whole_texts).prog) (w := w) (base := base) T (D__law_cell X G c)
  have F__law_mix := k__law_mix (P := (PySem.Challenge.rw_markwalkers_k40_whole_texts).prog) (w := w) (base := base) T (D__law_mix X G c) F__law_cell
  have F__law_draw := k__law_draw (P := (PySem.Challenge.rw_markwalkers_k40_whole_texts).prog) (w := w) (base := base) T (D__law_draw X G c) F__law_mix
  have F__law_pick := k__law_pick (P := (PySem.Challenge.rw_markwalkers_k40_whole_texts).prog) (w := w) (base := base) T (D__law_pick X G c) F__law_draw
  have F__law_rule := k__law_rule (P := (PySem.Challenge.rw_markwalkers_k40_whole_texts).prog) (w := w) (base := base) T (D__law_rule X G c) F__law_draw F__law_pick
  have F__law_state := k__law_state (P := (PySem.Challenge.rw_markwalkers_k40_whole_texts).prog) (w := w) (base := base) T (D__law_state X G c) F__law_draw F__law_pick
  have F_look_all := k_look_all (P := (PySem.Challenge.rw_markwalkers_k40_whole_texts).prog) (w := w) (base := base) T (D_look_all X G c) F_look_rule F_look_walker F_look_floor
  have F__law_refusal := k__law_refusal (P := (PySem.Challenge.rw_markwalkers_k40_whole_texts).prog) (w := w) (base := base) T (D__law_refusal X G c)
  have F_number_in := k_number_in (P := (PySem.Challenge.rw_markwalkers_k40_whole_texts).prog) (w := w) (base := base) T (D_number_in X G c)
  have F_place_in := k_place_in (P := (PySem.Challenge.rw_markwalkers_k40_whole_texts).prog) (w := w) (base := base) T (D_place_in X G c) F_number_in
  have F_mark_in := k_mark_in (P := (PySem.Challenge.rw_markwalkers_k40_whole_texts).prog) (w := w) (base := base) T (D_mark_in X G c) F_place_in F_number_in
  have F_written := k_written (P := (PySem.Challenge.rw_markwalkers_k40_whole_texts).prog) (w := w) (base := base) T (D_written X G c) F_look_all
  have F_read := k_read (P := (PySem.Challenge.rw_markwalkers_k40_whole_texts).prog) (w := w) (base := base) T (D_read X G c) F_place_in F_mark_in F_written
  have F__law_told := k__law_told (P := (PySem.Challenge.rw_markwalkers_k40_whole_texts).prog) (w := w) (base := base) T (D__law_told X G c) F_read F__law_refusal
  have F__law_place := k__law_place (P := (PySem.Challenge.rw_markwalkers_k40_whole_texts).prog) (w := w) (base := base) T (D__law_place X G c)
  have F__law_read := k__law_read (P := (PySem.Challenge.rw_markwalkers_k40_whole_texts).prog) (w := w) (base := base) T (D__law_read X G c) F__law_place
  have F_law := k_law (P := (PySem.Challenge.rw_markwalkers_k40_whole_texts).prog) (w := w) (base := base) T (D_law X G c) F__law_draw F__law_pick F__law_rule F__law_state F_written F__law_told F__law_read
  exact F_law
end
theorem facts {w : World} {K : PySem.W.Frag} {h : Heap} {mg : Str → Option Value} {f : Addr} (X : K.In h) (G : h.Ns mainGlobals mg) (hfa : mg ("law" : Str) = some (.ref f)) (c : He.SaysX fa fn ts [] ex w h K) :
    ∃ fd : FuncData, (∀ (s : Shared) (v : Value), BindsTo s fd ⟨[v], []⟩ [("script", v)]) ∧ ∀ base : Heap, FnOk (PySem.Challenge.rw_markwalkers_k40_whole_texts).prog w K mg base (L2.CX (PySem.Challenge.rw_markwalkers_k40_whole_texts).prog w) 6 f fd ["script"] (sp_law K) := by
  obtain ⟨fd, F⟩ := c.t.d.def_ 19 (d := d_law) rfl
  have e := hfa.symm.trans (He.glo_ok X G (c.t.d.fact 19 (f := .glo "law") rfl))
  cases e
  have b := FunD.bindsA (ps := ["script"]) F fun _ _ _ _ _ _ us hl => match us, hl with | [_], _ => rfl
  refine ⟨fd, fun s v => b s [v] rfl, fun base => ?_⟩
  obtain ⟨f', fd', F', g', _, _, oc, od, osl, lk⟩ := all_ok X G c base
  cases hfa.symm.trans g'
  obtain ⟨oc2, od2, _, _, _, _, _, _, _, osl2, _, lk2, _⟩ := F.ex
  cases lk.symm.trans lk2
  exact F'
end MW
open PySem PySem.W PySem.Calls PyProof.Rows
theorem PySem.Challenge.cw_markwalkers_k40_whole_texts_holds : PySem.Challenge.rw_markwalkers_k40_whole_texts.Holds := by
  w_on; o_law
  refine HandSHeadRun.head_any (r := OpenLaw.row PySem.Challenge.rw_markwalkers_k40_whole_texts) (q := view (OpenLaw.row PySem.Challenge.rw_markwalkers_k40_whole_texts).prog [34]) (H := MW.hk) (ob := MW.ob) (M := 4000) (loose := MW.nms) (d := HandSHeadRun.topDef (OpenLaw.row PySem.Challenge.rw_markwalkers_k40_whole_texts).prog 34) (kwd := []) MW.ob_eq
    (by kernel_rfl) (fun s => by kernel_rfl) MW.run (by kernel_rfl) (by kernel_rfl) (by kernel_rfl) (by rfl) (by first | assumption | decide +kernel) (by decide +kernel) ⟨rfl, rfl, rfl, rfl, rfl, by decide +kernel⟩ ?hw ?hc
  case hw => w_witness2
  case hc =>
    refine MW.walk_ofW (l := PySem.Challenge.rw_markwalkers_k40_whole_texts) (n := 63) (k := 6) (x := "script") (CX := fun w => L2.CX (PySem.Challenge.rw_markwalkers_k40_whole_texts).prog w) rfl (by decide) (by kernel_rfl) ⟨rfl, by decide, by decide⟩ ?F (fun _ _ _ _ _ z => MW.cx_never z)
    intro w mg fa h Y G hmg0
    obtain ⟨K, KX, c⟩ := Y
    have hmg : mg ("law" : PySem.Str) = some (.ref fa) := by
      have e : (HandSHeadRun.topDef (OpenLaw.row PySem.Challenge.rw_markwalkers_k40_whole_texts).prog 34).name = ("law" : PySem.Str) := by kernel_rfl
      rw [← e]
      exact hmg0
    obtain ⟨fd, hb, hF⟩ := MW.facts (w := w) KX G hmg c
    exact ⟨K, fd, MW.sp_law K, KX, hb, fun H a ns hl hS => ⟨⟨H, H, L2.Same.refl _, fun _ _ z => z⟩, a, ns, rfl, .cons rfl .nil, hS, fun _ => rfl⟩, fun base _ _ => hF base⟩

